import PyProof.Rows.All
import Wide.All
import OpenK.AllK
import Wide.FinOn
import HandS.ForMost
import HandS.Style
import HandS.TupAny
import HandS.IsInst
import HandS.Zip
import HandS.NoneIn
import HandS.Wide
import KE.KeyNested
import KE.KDictKeyed
import KE.LtSeq
import PyProof.NeKinds
import PyProof.NeData
import KE.KDictDisplayH
import KE.KRevSl
import HandS.TupSets
import HandS.Strs
import KE.SortData
import PySem.Challenge.RW_driftsums_k25_whole_best_numbers
import HandS.Conv
-- JL1
set_option Elab.async false
set_option linter.all false
set_option maxRecDepth 100000
set_option maxHeartbeats 4000000
/-! A layer of judgements upon data: what an expression is worth as plain data (PyData), over frozen objects (B) and owned ones (a store). -/
namespace J
open PySem L2

/-! ### worlds, stores -/
structure Wd where
  P : Program
  w : World
  K : PySem.W.Frag
abbrev wd (X : Cx) : Wd := ⟨X.prog, X.w, X.K⟩

abbrev NEnt := NestedKey × Addr × V
/-- a dict whose keys are nested tuples, by its entries -/
def DNat (P : Program) (w : World) (h : Heap) (a : Addr) (xs : List NEnt) : Prop :=
  xs.length ≤ sizeLine ∧ (a == sysModules) = false ∧ (∀ x ∈ xs, x.1.depth ≤ 8) ∧ ∃ vs : List (NestedKey × Addr × Value), Paired (fun (p : NEnt) (q : NestedKey × Addr × Value) => p.1 = q.1 ∧ p.2.1 = q.2.1 ∧ RelV p.2.2 q.2.2) xs vs ∧
    ∃ o es ep, h.get? a = some o ∧ o.ExactDict ∧ o.data = .dict es ep ∧ es.toList = vs.map (entryOfKey (nestedKind P w)) ∧ (vs.map (·.1)).Nodup
def DNO (P : Program) (w : World) (a : Addr) (xs : List NEnt) : HO := .ext fun h => DNat P w h a xs
/-- a dict whose keys are None and numbers -/
def DLat (P : Program) (w : World) (h : Heap) (a : Addr) (xs : List (Option Key × V)) : Prop :=
  xs.length ≤ sizeLine ∧ (a == sysModules) = false ∧ ∃ vs, KV xs vs ∧ h.DictOf (noneKind P w) a vs
def DLO (P : Program) (w : World) (a : Addr) (xs : List (Option Key × V)) : HO := .ext fun h => DLat P w h a xs

mutual
/-- a value as data; a list is one that stands in B -/
inductive Dq (K : PySem.W.Frag) (B : Hp) : V → PyData → Prop
  | non : Dq K B .non .none
  | bl (b : Bool) : Dq K B (.bl b) (.bool b)
  | int (i : Int) : Dq K B (.int i) (.int i)
  | str (x : Str) : Dq K B (.str x) (.str x)
  | lst {a : Addr} {xs : List V} {ds : List PyData} : Rd B a (.lst xs) → DqAll K B xs ds → Dq K B (.ref a) (.list ds)
  | tup {a : Addr} {xs : List V} {ds : List PyData} : SqT K B a xs → DqAll K B xs ds → Dq K B (.ref a) (.tuple ds)
inductive DqAll (K : PySem.W.Frag) (B : Hp) : List V → List PyData → Prop
  | nil : DqAll K B [] []
  | cons {v : V} {vs : List V} {d : PyData} {ds : List PyData} : Dq K B v d → DqAll K B vs ds → DqAll K B (v :: vs) (d :: ds)
end
mutual
theorem Dq.dp {K : PySem.W.Frag} {B : Hp} : ∀ (d : PyData) (v : V), Dq K B v d → L2.Dp K B v d
  | .none, _, h => by cases h; exact .non
  | .bool b, _, h => by cases h; exact .bl b
  | .int i, _, h => by cases h; exact .int i
  | .str x, _, h => by cases h; exact .str x
  | .list ds, _, h => by
    cases h with
    | lst hs ha => exact .lst (.inl hs) (DqAll.dp ds _ ha)
  | .tuple ds, _, h => by
    cases h with
    | tup hs ha => exact .tup hs (DqAll.dp ds _ ha)
  | .dict _, _, h => by cases h
theorem DqAll.dp {K : PySem.W.Frag} {B : Hp} : ∀ (ds : List PyData) (vs : List V), DqAll K B vs ds → L2.DpAll K B vs ds
  | [], _, h => by cases h; exact .nil
  | d :: ds, _, h => by
    cases h with
    | cons h1 h2 => exact .cons (Dq.dp d _ h1) (DqAll.dp ds _ h2)
end
inductive MO where
  | lst (ds : List PyData)
  | dct (kvs : List (NestedKey × PyData))
  | dlk (o : Obj) (u : HO) (kvs : List (NestedKey × PyData))
  | dlf (kvs : List (Option Key × PyData))
  | dlfk (o : Obj) (u : HO) (kvs : List (Option Key × PyData))
  | dinv (Φ : List (NestedKey × PyData) → Prop)
abbrev Sto := Addr → Option MO
def sset (S : Sto) (a : Addr) (m : MO) : Sto := fun b => if b = a then some m else S b
def sdel (S : Sto) (a : Addr) : Sto := fun b => if b = a then none else S b
theorem sset_same {S : Sto} {a : Addr} {m : MO} : sset S a m a = some m := if_pos rfl
theorem sset_ne {S : Sto} {a b : Addr} {m : MO} (h : b ≠ a) : sset S a m b = S b := if_neg h
theorem sset_sset {S : Sto} {a : Addr} {m n : MO} : sset (sset S a m) a n = sset S a n := by
  funext b; unfold sset; split <;> rfl
theorem sdel_sset {S : Sto} {a : Addr} {m : MO} (h : S a = none) : sdel (sset S a m) a = S := by
  funext b
  unfold sdel sset
  by_cases e : b = a
  · rw [if_pos e, e, h]
  · rw [if_neg e, if_neg e]
theorem sset_self {S : Sto} {a : Addr} {m : MO} (h : S a = some m) : sset S a m = S := by
  funext b; unfold sset; split
  · rename_i e; rw [e, h]
  · rfl
theorem sset_comm {S : Sto} {a b : Addr} {m n : MO} (h : a ≠ b) : sset (sset S a m) b n = sset (sset S b n) a m := by
  funext c; unfold sset
  by_cases e1 : c = a <;> by_cases e2 : c = b
  · exact absurd (e1.symm.trans e2) h
  · simp [e1, h]
  · simp [e2, Ne.symm h]
  · simp [e1, e2]
theorem sset_get {S : Sto} {a b : Addr} {m n : MO} (h : S a = some m) (hb : S b = none) : sset S b n a = some m := by
  rw [sset_ne (fun e => by rw [e, hb] at h; cases h)]; exact h

/-- an entry's key stands as a tuple, its value as data -/
def EntN (K : PySem.W.Frag) (B : Hp) (x : NEnt) (y : NestedKey × PyData) : Prop := x.1 = y.1 ∧ Dq K B (.ref x.2.1) y.1.data ∧ Dq K B x.2.2 y.2
def EntL (K : PySem.W.Frag) (B : Hp) (x : Option Key × V) (y : Option Key × PyData) : Prop := x.1 = y.1 ∧ Dq K B x.2 y.2
/-- what an owned object is in the heap -/
def HoM (W : Wd) (B H : Hp) (a : Addr) : MO → Prop
  | .lst ds => ∃ vs, H a = some (.lst vs) ∧ DqAll W.K B vs ds
  | .dct kvs => ∃ xs, H a = some (DNO W.P W.w a xs) ∧ Paired (EntN W.K B) xs kvs
  | .dlk o u kvs => ∃ xs, u = DNO W.P W.w a xs ∧ H a = some (.frz o u) ∧ Paired (EntN W.K B) xs kvs
  | .dlf kvs => ∃ xs, H a = some (DLO W.P W.w a xs) ∧ Paired (EntL W.K B) xs kvs
  | .dlfk o u kvs => ∃ xs, u = DLO W.P W.w a xs ∧ H a = some (.frz o u) ∧ Paired (EntL W.K B) xs kvs
  | .dinv Φ => ∃ kvs, Φ kvs ∧ ∃ xs, H a = some (DNO W.P W.w a xs) ∧ Paired (EntN W.K B) xs kvs
/-- what may be forgotten of an owned object -/
inductive MLe : MO → MO → Prop
  | refl (m : MO) : MLe m m
  | inv {Φ : List (NestedKey × PyData) → Prop} {kvs : List (NestedKey × PyData)} (h : Φ kvs) : MLe (.dct kvs) (.dinv Φ)
theorem MLe.trans {a b c : MO} (h : MLe a b) (k : MLe b c) : MLe a c := by
  cases k with
  | refl => exact h
  | inv k => cases h with
    | refl => exact .inv k
theorem HoM.le {W : Wd} {B H : Hp} {a : Addr} {m m' : MO} (h : HoM W B H a m) (k : MLe m m') : HoM W B H a m' := by
  cases k with
  | refl => exact h
  | inv k => exact ⟨_, k, h⟩

/-! ### data stays -/
theorem sqt_mono {K : PySem.W.Frag} {B B' : Hp} {a : Addr} {xs : List V} (e : ∀ b u, Rd B b u → Rd B' b u) (h : SqT K B a xs) : SqT K B' a xs := h.imp (e _ _) id
theorem sql_mono {K : PySem.W.Frag} {B B' : Hp} {a : Addr} {xs : List V} (e : ∀ b u, Rd B b u → Rd B' b u) (h : SqL K B a xs) : SqL K B' a xs := h.imp (e _ _) id
mutual
theorem dp_mono {K : PySem.W.Frag} {B B' : Hp} (e : ∀ b u, Rd B b u → Rd B' b u) : ∀ (d : PyData) (v : V), Dq K B v d → Dq K B' v d
  | .none, _, h => by cases h; exact .non
  | .bool b, _, h => by cases h; exact .bl b
  | .int i, _, h => by cases h; exact .int i
  | .str x, _, h => by cases h; exact .str x
  | .list ds, _, h => by
    cases h with
    | lst hs ha => exact .lst (e _ _ hs) (dpAll_mono e ds _ ha)
  | .tuple ds, _, h => by
    cases h with
    | tup hs ha => exact .tup (sqt_mono e hs) (dpAll_mono e ds _ ha)
  | .dict _, _, h => by cases h
theorem dpAll_mono {K : PySem.W.Frag} {B B' : Hp} (e : ∀ b u, Rd B b u → Rd B' b u) : ∀ (ds : List PyData) (vs : List V), DqAll K B vs ds → DqAll K B' vs ds
  | [], _, h => by cases h; exact .nil
  | d :: ds, _, h => by
    cases h with
    | cons h1 h2 => exact .cons (dp_mono e d _ h1) (dpAll_mono e ds _ h2)
end
abbrev Leb (B B' : Hp) : Prop := ∀ a o, B a = some o → B' a = some o
theorem Leb.rd {B B' : Hp} (e : Leb B B') : ∀ b u, Rd B b u → Rd B' b u := fun b u h => by
  rcases h with h | ⟨o, h⟩
  · exact .inl (e _ _ h)
  · exact .inr ⟨o, e _ _ h⟩
theorem Leb.refl (B : Hp) : Leb B B := fun _ _ h => h
theorem Leb.trans {A B C : Hp} (e : Leb A B) (f : Leb B C) : Leb A C := fun a o h => f a o (e a o h)
theorem paired_imp {α β : Type} {F G : α → β → Prop} (f : ∀ a b, F a b → G a b) : ∀ {l₁ : List α} {l₂ : List β}, Paired F l₁ l₂ → Paired G l₁ l₂
  | _, _, .nil => .nil
  | _, _, .cons r t => .cons (f _ _ r) (paired_imp f t)
theorem EntN.mono {K : PySem.W.Frag} {B B' : Hp} (e : Leb B B') (x : NEnt) (y : NestedKey × PyData) (h : EntN K B x y) : EntN K B' x y := ⟨h.1, dp_mono e.rd _ _ h.2.1, dp_mono e.rd _ _ h.2.2⟩
theorem EntL.mono {K : PySem.W.Frag} {B B' : Hp} (e : Leb B B') (x : Option Key × V) (y : Option Key × PyData) (h : EntL K B x y) : EntL K B' x y := ⟨h.1, dp_mono e.rd _ _ h.2⟩
theorem HoM.mono {W : Wd} {B B' H H' : Hp} {a : Addr} {m : MO} (e : Leb B B') (ha : H' a = H a) (h : HoM W B H a m) : HoM W B' H' a m := by
  cases m with
  | lst ds => obtain ⟨vs, h1, h2⟩ := h; exact ⟨vs, ha.trans h1, dpAll_mono e.rd _ _ h2⟩
  | dct kvs => obtain ⟨xs, h1, h2⟩ := h; exact ⟨xs, ha.trans h1, paired_imp (EntN.mono e) h2⟩
  | dlk o u kvs => obtain ⟨xs, h0, h1, h2⟩ := h; exact ⟨xs, h0, ha.trans h1, paired_imp (EntN.mono e) h2⟩
  | dlf kvs => obtain ⟨xs, h1, h2⟩ := h; exact ⟨xs, ha.trans h1, paired_imp (EntL.mono e) h2⟩
  | dlfk o u kvs => obtain ⟨xs, h0, h1, h2⟩ := h; exact ⟨xs, h0, ha.trans h1, paired_imp (EntL.mono e) h2⟩
  | dinv Φ => obtain ⟨kvs, hk, xs, h1, h2⟩ := h; exact ⟨kvs, hk, xs, ha.trans h1, paired_imp (EntN.mono e) h2⟩
theorem HoM.ne {W : Wd} {B H : Hp} {a : Addr} {m : MO} (h : HoM W B H a m) : H a ≠ none := by
  cases m with
  | lst ds => obtain ⟨vs, h1, h2⟩ := h; rw [h1]; exact fun z => nomatch z
  | dct kvs => obtain ⟨xs, h1, h2⟩ := h; rw [h1]; exact fun z => nomatch z
  | dlk o u kvs => obtain ⟨xs, h0, h1, h2⟩ := h; rw [h1]; exact fun z => nomatch z
  | dlf kvs => obtain ⟨xs, h1, h2⟩ := h; rw [h1]; exact fun z => nomatch z
  | dlfk o u kvs => obtain ⟨xs, h0, h1, h2⟩ := h; rw [h1]; exact fun z => nomatch z
  | dinv Φ => obtain ⟨kvs, hk, xs, h1, h2⟩ := h; rw [h1]; exact fun z => nomatch z

/-! ### a state of three: the frozen part, the owned part, the heap -/
structure Good (W : Wd) (B : Hp) (S : Sto) (H : Hp) : Prop where
  ex : ∀ a u, Rd B a u → Rd H a u
  own : ∀ a m, S a = some m → B a = none ∧ HoM W B H a m
structure Gw (B : Hp) (S : Sto) (H B' : Hp) (S' : Sto) (H' : Hp) : Prop where
  b : Leb B B'
  k : ∀ a o, H a = some o → S a = none → H' a = some o
  o : ∀ a, H a ≠ none → B a = none → S a = none → B' a = none ∧ S' a = none
theorem Gw.refl {B : Hp} {S : Sto} {H : Hp} : Gw B S H B S H := ⟨Leb.refl B, fun _ _ h _ => h, fun _ _ h h' => ⟨h, h'⟩⟩
theorem Gw.trans {W : Wd} {B B1 B2 H H1 H2 : Hp} {S S1 S2 : Sto} (g : Gw B S H B1 S1 H1) (q : Good W B1 S1 H1) (g2 : Gw B1 S1 H1 B2 S2 H2) : Gw B S H B2 S2 H2 where
  b := g.b.trans g2.b
  k := fun a o h hs => by
    refine g2.k a o (g.k a o h hs) ?_
    cases hb : B a with
    | none => exact (g.o a (by rw [h]; exact fun z => nomatch z) hb hs).2
    | some u =>
      cases h1 : S1 a with
      | none => rfl
      | some m =>
        have := (q.own a m h1).1
        rw [g.b a u hb] at this; cases this
  o := fun a h hb hs => by
    obtain ⟨h1, h2⟩ := g.o a h hb hs
    refine g2.o a ?_ h1 h2
    cases e : H a with
    | none => exact absurd e h
    | some u => rw [g.k a u e hs]; exact fun z => nomatch z
section
variable {W : Wd} {B H : Hp} {S : Sto}
theorem Good.bnone (g : Good W B S H) {p : Addr} (h : H p = none) : B p = none := by
  cases e : B p with
  | none => rfl
  | some u => rcases g.ex p u (.inl e) with z | ⟨o, z⟩ <;> rw [h] at z <;> cases z
theorem Good.snone (g : Good W B S H) {p : Addr} (h : H p = none) : S p = none := by
  cases e : S p with
  | none => rfl
  | some m => exact absurd h (g.own p m e).2.ne
/-- a new frozen object -/
theorem Good.frozen (g : Good W B S H) {p : Addr} {o : HO} (h : H p = none) (ho : ∀ ob u, o ≠ .frz ob u) : Good W (upd B p o) S (upd H p o) ∧ Gw B S H (upd B p o) S (upd H p o) := by
  have hb := g.bnone h
  have hs := g.snone h
  have le : Leb B (upd B p o) := fun a u e => by rw [upd_ne (ne_of_none e hb)]; exact e
  refine ⟨⟨fun a u r => ?_, fun a m e => ?_⟩, ⟨le, fun a u e _ => by rw [upd_ne (ne_of_none e h)]; exact e, fun a e hb' hs' => ⟨?_, hs'⟩⟩⟩
  · by_cases ea : a = p
    · subst ea
      rcases r with z | ⟨ob, z⟩
      · rw [upd_same] at z; cases z; exact .inl upd_same
      · rw [upd_same] at z; cases z; exact absurd rfl (ho _ _)
    · have r' : Rd B a u := by
        rcases r with z | ⟨ob, z⟩
        · rw [upd_ne ea] at z; exact .inl z
        · rw [upd_ne ea] at z; exact .inr ⟨ob, z⟩
      rcases g.ex a u r' with z | ⟨ob, z⟩
      · exact .inl (by rw [upd_ne ea]; exact z)
      · exact .inr ⟨ob, by rw [upd_ne ea]; exact z⟩
  · have ne : a ≠ p := fun z => by rw [z, hs] at e; cases e
    obtain ⟨h1, h2⟩ := g.own a m e
    exact ⟨by rw [upd_ne ne]; exact h1, h2.mono le (upd_ne ne)⟩
  · rw [upd_ne (fun z => e (by rw [z]; exact h))]; exact hb'
/-- a new owned object -/
theorem Good.owned (g : Good W B S H) {p : Addr} {o : HO} {m : MO} (h : H p = none) (hm : HoM W B (upd H p o) p m) : Good W B (sset S p m) (upd H p o) ∧ Gw B S H B (sset S p m) (upd H p o) := by
  have hb := g.bnone h
  have hs := g.snone h
  refine ⟨⟨fun a u r => ?_, fun a m' e => ?_⟩, ⟨Leb.refl B, fun a u e _ => by rw [upd_ne (ne_of_none e h)]; exact e, fun a e hb' hs' => ⟨hb', ?_⟩⟩⟩
  · have ne : a ≠ p := by
      rintro rfl
      rcases r with z | ⟨ob, z⟩ <;> rw [hb] at z <;> cases z
    rcases g.ex a u r with z | ⟨ob, z⟩
    · exact .inl (by rw [upd_ne ne]; exact z)
    · exact .inr ⟨ob, by rw [upd_ne ne]; exact z⟩
  · by_cases ea : a = p
    · subst ea
      rw [sset_same] at e; cases e
      exact ⟨hb, hm⟩
    · rw [sset_ne ea] at e
      obtain ⟨h1, h2⟩ := g.own a m' e
      exact ⟨h1, h2.mono (Leb.refl B) (upd_ne ea)⟩
  · rw [sset_ne (fun z => e (by rw [z]; exact h))]; exact hs'
/-- an owned object is written -/
theorem Good.wrote (g : Good W B S H) {a : Addr} {o : HO} {m m' : MO} (h : S a = some m) (hm : HoM W B (upd H a o) a m') : Good W B (sset S a m') (upd H a o) ∧ Gw B S H B (sset S a m') (upd H a o) := by
  have hb := (g.own a m h).1
  refine ⟨⟨fun c u r => ?_, fun c m2 e => ?_⟩, ⟨Leb.refl B, fun c u e hs => ?_, fun c e hb' hs' => ⟨hb', ?_⟩⟩⟩
  · have ne : c ≠ a := by
      rintro rfl
      rcases r with z | ⟨ob, z⟩ <;> rw [hb] at z <;> cases z
    rcases g.ex c u r with z | ⟨ob, z⟩
    · exact .inl (by rw [upd_ne ne]; exact z)
    · exact .inr ⟨ob, by rw [upd_ne ne]; exact z⟩
  · by_cases ec : c = a
    · subst ec
      rw [sset_same] at e; cases e
      exact ⟨hb, hm⟩
    · rw [sset_ne ec] at e
      obtain ⟨h1, h2⟩ := g.own c m2 e
      exact ⟨h1, h2.mono (Leb.refl B) (upd_ne ec)⟩
  · rw [upd_ne (fun z => by rw [z, h] at hs; cases hs)]; exact e
  · rw [sset_ne (fun z => by rw [z, h] at hs'; cases hs')]; exact hs'
/-- an owned list is let stand for good -/
theorem Good.freeze (g : Good W B S H) {a : Addr} {ds : List PyData} (h : S a = some (.lst ds)) : ∃ B', Good W B' (sdel S a) H ∧ Gw B S H B' (sdel S a) H ∧ Dq W.K B' (.ref a) (.list ds) := by
  obtain ⟨hb, vs, h1, h2⟩ := g.own a _ h
  have le : Leb B (upd B a (.lst vs)) := fun c u e => by rw [upd_ne (ne_of_none e hb)]; exact e
  refine ⟨upd B a (.lst vs), ⟨fun c u r => ?_, fun c m e => ?_⟩, ⟨le, fun _ _ e _ => e, fun c e hb' hs' => ?_⟩, .lst (.inl upd_same) (dpAll_mono le.rd _ _ h2)⟩
  · by_cases ec : c = a
    · subst ec
      rcases r with z | ⟨ob, z⟩ <;> rw [upd_same] at z <;> cases z
      exact .inl h1
    · refine g.ex c u ?_
      rcases r with z | ⟨ob, z⟩
      · rw [upd_ne ec] at z; exact .inl z
      · rw [upd_ne ec] at z; exact .inr ⟨ob, z⟩
  · have ne : c ≠ a := fun z => by
      rw [z] at e
      unfold sdel at e
      rw [if_pos rfl] at e; cases e
    have e' : S c = some m := by
      unfold sdel at e
      rw [if_neg ne] at e; exact e
    obtain ⟨h1, h2⟩ := g.own c m e'
    exact ⟨by rw [upd_ne ne]; exact h1, h2.mono le rfl⟩
  · have ne : c ≠ a := fun z => by rw [z, h] at hs'; cases hs'
    exact ⟨by rw [upd_ne ne]; exact hb', by unfold sdel; rw [if_neg ne]; exact hs'⟩
/-- forgetting owned objects -/
def SubS (S S' : Sto) : Prop := ∀ a m, S a = some m → ∃ m', S' a = some m' ∧ MLe m' m
theorem SubS.refl (S : Sto) : SubS S S := fun _ m h => ⟨m, h, .refl m⟩
theorem SubS.no {S S' : Sto} (h : SubS S S') {a : Addr} (e : S' a = none) : S a = none := by
  cases q : S a with
  | none => rfl
  | some m =>
    obtain ⟨m', e', _⟩ := h a m q
    rw [e'] at e; cases e
theorem SubS.trans {S S1 S2 : Sto} (h : SubS S S1) (k : SubS S1 S2) : SubS S S2 := fun a m e => by
  obtain ⟨m1, e1, l1⟩ := h a m e
  obtain ⟨m2, e2, l2⟩ := k a m1 e1
  exact ⟨m2, e2, l2.trans l1⟩
theorem SubS.set {S : Sto} {a : Addr} {m : MO} (h : S a = none) : SubS S (sset S a m) := fun b n e => ⟨n, sset_get e h, .refl n⟩
theorem SubS.set2 {S S' : Sto} {a : Addr} {m : MO} (h : S a = none) (k : SubS S S') : SubS S (sset S' a m) := fun b n e => by
  rw [sset_ne (fun z => by rw [z, h] at e; cases e)]; exact k b n e
theorem SubS.del {S S' : Sto} {a : Addr} (h : S a = none) (k : SubS S S') : SubS S (sdel S' a) := fun b n e => by
  unfold sdel
  rw [if_neg (fun z => by rw [z, h] at e; cases e)]; exact k b n e
/-- an object of either store -/
theorem SubS.both {S S' : Sto} {a : Addr} {m m' : MO} (k : SubS S S') (l : MLe m' m) : SubS (sset S a m) (sset S' a m') := fun b n e => by
  by_cases c : b = a
  · subst c
    rw [sset_same] at e; cases e
    exact ⟨m', sset_same, l⟩
  · rw [sset_ne c] at e ⊢
    exact k b n e
theorem Good.drop {S' : Sto} (g : Good W B S' H) (h : SubS S S') : Good W B S H := ⟨g.ex, fun a m e => by
  obtain ⟨m', e', l⟩ := h a m e
  obtain ⟨h1, h2⟩ := g.own a m' e'
  exact ⟨h1, h2.le l⟩⟩
theorem Gw.drop {B' H' : Hp} {S0 S' : Sto} (w : Gw B S0 H B' S' H') (h : SubS S S') : Gw B S0 H B' S H' := ⟨w.b, w.k, fun a e hb hs => ⟨(w.o a e hb hs).1, h.no (w.o a e hb hs).2⟩⟩
end

/-! ### values as data -/
inductive Wv where
  | d (x : PyData)
  | o (a : Addr)
  | v (x : V)
  | s (Φ : PyData → Prop)
def Rw (K : PySem.W.Frag) (B : Hp) (v : V) : Wv → Prop
  | .d x => Dq K B v x
  | .o a => v = .ref a
  | .v x => v = x
  | .s Φ => ∃ d, Φ d ∧ Dq K B v d
theorem Rw.mono {K : PySem.W.Frag} {B B' : Hp} {v : V} {w : Wv} (e : Leb B B') (h : Rw K B v w) : Rw K B' v w := by
  cases w with
  | d x => exact dp_mono e.rd x v h
  | o a => exact h
  | v x => exact h
  | s Φ => obtain ⟨d, h1, h2⟩ := h; exact ⟨d, h1, dp_mono e.rd d v h2⟩
/-- what may be forgotten of a value -/
inductive WLe : Wv → Wv → Prop
  | refl (w : Wv) : WLe w w
  | s {Φ : PyData → Prop} {d : PyData} (h : Φ d) : WLe (.d d) (.s Φ)
theorem Rw.le {K : PySem.W.Frag} {B : Hp} {v : V} {w r : Wv} (h : Rw K B v w) (k : WLe w r) : Rw K B v r := by
  cases k with
  | refl => exact h
  | s k => exact ⟨_, k, h⟩
abbrev Gm := List (Option Wv)
structure Sl (K : PySem.W.Frag) (B : Hp) (σ : L2.St) (G : Gm) : Prop where
  len : σ.length = G.length
  at_ : ∀ (i : Nat) w, G[i]? = some (some w) → ∃ v, σ[i]? = some (some v) ∧ Rw K B v w
section
variable {K : PySem.W.Frag} {B B' : Hp} {σ : L2.St} {G : Gm}
theorem Sl.mono (e : Leb B B') (h : Sl K B σ G) : Sl K B' σ G := ⟨h.len, fun i w q => let ⟨v, h1, h2⟩ := h.at_ i w q; ⟨v, h1, h2.mono e⟩⟩
theorem Sl.set (h : Sl K B σ G) {v : V} {w : Wv} (i : Nat) (r : Rw K B v w) : Sl K B (σ.set i (some v)) (G.set i (some w)) := by
  refine ⟨by rw [List.length_set, List.length_set]; exact h.len, fun j w' q => ?_⟩
  by_cases e : i = j
  · subst e
    have hi : i < G.length := by
      have := (List.getElem?_eq_some_iff.mp q).1
      rw [List.length_set] at this; exact this
    rw [List.getElem?_set_self hi] at q
    cases q
    exact ⟨v, List.getElem?_set_self (by rw [h.len]; exact hi), r⟩
  · rw [List.getElem?_set_ne e] at q
    rw [List.getElem?_set_ne e]
    exact h.at_ j w' q
theorem Sl.wipe (h : Sl K B σ G) : ∀ vs : List Nat, (∀ (i : Nat), i ∈ vs → G[i]? = some none) → Sl K B (wipe σ vs) G
  | [], _ => h
  | v :: vs, hv => by
    have ih := Sl.wipe h vs fun i hi => hv i (List.mem_cons_of_mem _ hi)
    refine ⟨by rw [wipe_length]; exact h.len, fun j w q => ?_⟩
    have ne : v ≠ j := fun e => by
      have := hv v List.mem_cons_self
      rw [e, q] at this; cases this
    show ∃ x, ((L2.wipe σ vs).set v none)[j]? = some (some x) ∧ _
    rw [List.getElem?_set_ne ne]
    exact ih.at_ j w q
end
theorem dpAll_len {K : PySem.W.Frag} {B : Hp} : ∀ {vs : List V} {ds : List PyData}, DqAll K B vs ds → vs.length = ds.length
  | _, _, .nil => rfl
  | _, _, .cons _ t => by rw [List.length_cons, List.length_cons, dpAll_len t]
theorem dpAll_get {K : PySem.W.Frag} {B : Hp} : ∀ {vs : List V} {ds : List PyData} {i : Nat} {d : PyData}, DqAll K B vs ds → ds[i]? = some d → ∃ v, vs[i]? = some v ∧ Dq K B v d
  | _, _, _, _, .nil, e => by simp at e
  | _, _, 0, _, .cons r _, e => by simp at e; subst e; exact ⟨_, rfl, r⟩
  | _, _, i + 1, d, .cons _ t, e => by
    obtain ⟨u, h1, h2⟩ := dpAll_get (i := i) (d := d) t (by simpa using e)
    exact ⟨u, by simpa using h1, h2⟩
theorem dpAll_append {K : PySem.W.Frag} {B : Hp} : ∀ {vs ws : List V} {ds es : List PyData}, DqAll K B vs ds → DqAll K B ws es → DqAll K B (vs ++ ws) (ds ++ es)
  | _, _, _, _, .nil, s => s
  | _, _, _, _, .cons r t, s => .cons r (dpAll_append t s)
end J

-- JL2
set_option Elab.async false
set_option linter.all false
set_option maxRecDepth 100000
set_option maxHeartbeats 4000000
/-! The judgements, and the rules for expressions. -/
namespace J
open PySem L2

/-! ### the weakest readings -/
section
variable (X : Cx)
def wE (e : Expr) : TE := fun σ H Q => ∀ pins s, Inv X pins σ H s → wpAny (model X.prog X.w) X.A (eval e X.env) (EP X pins σ Q) X.xe s
def wT (e : Expr) : TT := fun σ H Q => ∀ pins s, Inv X pins σ H s → wpAny (model X.prog X.w) X.A (isTrue e X.env (eval e X.env)) (TP X pins σ Q) X.xe s
def wTw (e : Expr) : TT := fun σ H Q => ∀ whole pins s, Inv X pins σ H s → wpAny (model X.prog X.w) X.A (isTrue e X.env whole) (TP X pins σ Q) X.xe s
def wA (es : List Expr) : TA := fun σ H Q => ∀ pos pins s, Inv X pins σ H s → wpAny (model X.prog X.w) X.A (spliced (backTo pos (starEach es X.env))) (AP X pins σ Q) X.xe s
def wS (st : Stmt) : TS := fun D σ H => ∀ pins s, Inv X pins σ H s → wpAny (model X.prog X.w) X.A (exec st X.env) (SP X pins D) X.xe s
def wSs (st : List Stmt) : TS := fun D σ H => ∀ pins s, Inv X pins σ H s → wpAny (model X.prog X.w) X.A (execs st X.env) (SP X pins D) X.xe s
def wI (tg iter : Expr) : TI := fun σ H R => ∀ pins s, Inv X pins σ H s → wpAny (model X.prog X.w) X.A (eval iter X.env) (fun v s1 => wpAny (model X.prog X.w) X.A (pyIter v) (PIE X pins σ tg R) X.xe s1) X.xe s
def wG (tg : Expr) : TG := fun v σ H Q => ∀ pins s u, Inv X pins σ H s → RelV v u → wpAny (model X.prog X.w) X.A (assign tg X.env u) (fun _ s' => ∃ σ' H', Inv X pins σ' H' s' ∧ Q σ' H') X.xe s
def wGs (ts : List Expr) : TGs := fun vs σ H Q => ∀ pins s us, Inv X pins σ H s → Vals vs us → wpAny (model X.prog X.w) X.A (assignInOrder ((assignEach ts X.env).map (·.2)) us) (fun _ s' => ∃ σ' H', Inv X pins σ' H' s' ∧ Q σ' H') X.xe s
end
section
variable {X : Cx} {σ : L2.St} {H : Hp}
theorem pe_w {e : Expr} : PE X e (wE X e) := ⟨fun pins s _ _ _ I h => h pins s I⟩
theorem pt_w {e : Expr} : PT X e (wT X e) := ⟨fun pins s _ _ _ I h => h pins s I⟩
theorem pw_w {e : Expr} : PW X e (wTw X e) := ⟨fun whole pins s _ _ _ I h => h whole pins s I⟩
theorem pa_w {es : List Expr} : PA X es (wA X es) := ⟨fun pos pins s _ _ _ I h => h pos pins s I⟩
theorem ps_w {st : Stmt} : PS X st (wS X st) := ⟨fun pins s _ _ _ I h => h pins s I⟩
theorem pss_w {st : List Stmt} : PSs X st (wSs X st) := ⟨fun pins s _ _ _ I h => h pins s I⟩
theorem pi_w {tg iter : Expr} : PI X tg iter (wI X tg iter) := ⟨fun pins s _ _ _ I h => h pins s I⟩
theorem pg_w {tg : Expr} : PG X tg (wG X tg) := ⟨fun pins s _ _ v u _ I r h => h pins s u I r⟩
theorem pgs_w {ts : List Expr} : PGs X ts (wGs X ts) := ⟨fun pins s _ _ vs us _ I r h => h pins s us I r⟩
theorem wE_of {e : Expr} {t : TE} (h : PE X e t) {Q : VK} (q : t σ H Q) : wE X e σ H Q := fun pins s I => h.run pins s σ H Q I q
theorem wT_of {e : Expr} {t : TT} (h : PT X e t) {Q : Bool → Hp → Prop} (q : t σ H Q) : wT X e σ H Q := fun pins s I => h.run pins s σ H Q I q
theorem wTw_of {e : Expr} {t : TT} (h : PW X e t) {Q : Bool → Hp → Prop} (q : t σ H Q) : wTw X e σ H Q := fun whole pins s I => h.run whole pins s σ H Q I q
theorem wA_of {es : List Expr} {t : TA} (h : PA X es t) {Q : List V → Hp → Prop} (q : t σ H Q) : wA X es σ H Q := fun pos pins s I => h.run pos pins s σ H Q I q
theorem wS_of {st : Stmt} {t : TS} (h : PS X st t) {D : Ends} (q : t D σ H) : wS X st D σ H := fun pins s I => h.run pins s σ H D I q
theorem wSs_of {st : List Stmt} {t : TS} (h : PSs X st t) {D : Ends} (q : t D σ H) : wSs X st D σ H := fun pins s I => h.run pins s σ H D I q
theorem wI_of {tg iter : Expr} {t : TI} (h : PI X tg iter t) {R : It → Hp → Prop} (q : t σ H R) : wI X tg iter σ H R := fun pins s I => h.run pins s σ H R I q
theorem wG_of {tg : Expr} {t : TG} (h : PG X tg t) {v : V} {Q : L2.St → Hp → Prop} (q : t v σ H Q) : wG X tg v σ H Q := fun pins s u I r => h.run pins s σ H v u Q I r q
theorem wGs_of {ts : List Expr} {t : TGs} (h : PGs X ts t) {vs : List V} {Q : L2.St → Hp → Prop} (q : t vs σ H Q) : wGs X ts vs σ H Q := fun pins s us I r => h.run pins s σ H vs us Q I r q
theorem wE_mono {e : Expr} {Q Q' : VK} (h : wE X e σ H Q) (f : ∀ v H', Q v H' → Q' v H') : wE X e σ H Q' := fun pins s I => thn (h pins s I) fun _ _ ⟨v, H', I', r, q⟩ => ⟨v, H', I', r, f v H' q⟩
theorem wT_mono {e : Expr} {Q Q' : Bool → Hp → Prop} (h : wT X e σ H Q) (f : ∀ v H', Q v H' → Q' v H') : wT X e σ H Q' := fun pins s I => thn (h pins s I) fun b _ ⟨H', I', q⟩ => ⟨H', I', f b H' q⟩
theorem wTw_mono {e : Expr} {Q Q' : Bool → Hp → Prop} (h : wTw X e σ H Q) (f : ∀ v H', Q v H' → Q' v H') : wTw X e σ H Q' := fun whole pins s I => thn (h whole pins s I) fun b _ ⟨H', I', q⟩ => ⟨H', I', f b H' q⟩
theorem wA_mono {es : List Expr} {Q Q' : List V → Hp → Prop} (h : wA X es σ H Q) (f : ∀ v H', Q v H' → Q' v H') : wA X es σ H Q' := fun pos pins s I => thn (h pos pins s I) fun _ _ ⟨vs, H', I', r, q⟩ => ⟨vs, H', I', r, f vs H' q⟩
theorem sp_mono {pins : List (Addr × Obj)} {D D' : Ends} (h1 : ∀ σ H, D.nx σ H → D'.nx σ H) (h2 : ∀ v H, D.rt v H → D'.rt v H) (h3 : ∀ σ H, D.bk σ H → D'.bk σ H) (h4 : ∀ σ H, D.ct σ H → D'.ct σ H) {f : Flow} {s : Shared} (h : SP X pins D f s) : SP X pins D' f s := by
  cases f with
  | next => obtain ⟨σ', H', I, q⟩ := h; exact ⟨σ', H', I, h1 _ _ q⟩
  | brk => obtain ⟨σ', H', I, q⟩ := h; exact ⟨σ', H', I, h3 _ _ q⟩
  | cont => obtain ⟨σ', H', I, q⟩ := h; exact ⟨σ', H', I, h4 _ _ q⟩
  | ret u => obtain ⟨v, σ', H', I, r, q⟩ := h; exact ⟨v, σ', H', I, r, h2 _ _ q⟩
theorem wS_mono {st : Stmt} {D D' : Ends} (h : wS X st D σ H) (h1 : ∀ σ H, D.nx σ H → D'.nx σ H) (h2 : ∀ v H, D.rt v H → D'.rt v H) (h3 : ∀ σ H, D.bk σ H → D'.bk σ H) (h4 : ∀ σ H, D.ct σ H → D'.ct σ H) : wS X st D' σ H :=
  fun pins s I => thn (h pins s I) fun _ _ q => sp_mono h1 h2 h3 h4 q
theorem wSs_mono {st : List Stmt} {D D' : Ends} (h : wSs X st D σ H) (h1 : ∀ σ H, D.nx σ H → D'.nx σ H) (h2 : ∀ v H, D.rt v H → D'.rt v H) (h3 : ∀ σ H, D.bk σ H → D'.bk σ H) (h4 : ∀ σ H, D.ct σ H → D'.ct σ H) : wSs X st D' σ H :=
  fun pins s I => thn (h pins s I) fun _ _ q => sp_mono h1 h2 h3 h4 q
theorem wI_mono {tg iter : Expr} {R R' : It → Hp → Prop} (h : wI X tg iter σ H R) (f : ∀ J H', R J H' → R' J H') : wI X tg iter σ H R' :=
  fun pins s I => thn (h pins s I) fun v s1 q => thn q fun itv s2 ⟨it, fp, tn, J, H', a1, a2, a3, a4, a5, a6⟩ => ⟨it, fp, tn, J, H', a1, a2, a3, a4, a5, f _ _ a6⟩
theorem wG_mono {tg : Expr} {v : V} {Q Q' : L2.St → Hp → Prop} (h : wG X tg v σ H Q) (f : ∀ σ' H', Q σ' H' → Q' σ' H') : wG X tg v σ H Q' :=
  fun pins s u I r => thn (h pins s u I r) fun _ _ ⟨σ', H', I', q⟩ => ⟨σ', H', I', f _ _ q⟩
theorem wGs_mono {ts : List Expr} {v : List V} {Q Q' : L2.St → Hp → Prop} (h : wGs X ts v σ H Q) (f : ∀ σ' H', Q σ' H' → Q' σ' H') : wGs X ts v σ H Q' :=
  fun pins s u I r => thn (h pins s u I r) fun _ _ ⟨σ', H', I', q⟩ => ⟨σ', H', I', f _ _ q⟩
end

/-! ### the judgements -/
/-- what follows a value: state and value -/
def EQ (W : Wd) (B : Hp) (S : Sto) (H : Hp) (r : Wv) (S' : Sto) : VK := fun v H' => ∃ B', Gw B S H B' S' H' ∧ Good W B' S' H' ∧ Rw W.K B' v r
def TQ (W : Wd) (B : Hp) (S : Sto) (H : Hp) (b : Bool) (S' : Sto) : Bool → Hp → Prop := fun c H' => c = b ∧ ∃ B', Gw B S H B' S' H' ∧ Good W B' S' H'
inductive RwAll (K : PySem.W.Frag) (B : Hp) : List V → List Wv → Prop
  | nil : RwAll K B [] []
  | cons {v vs w ws} : Rw K B v w → RwAll K B vs ws → RwAll K B (v :: vs) (w :: ws)
theorem RwAll.mono {K : PySem.W.Frag} {B B' : Hp} (e : Leb B B') : ∀ {vs ws}, RwAll K B vs ws → RwAll K B' vs ws
  | _, _, .nil => .nil
  | _, _, .cons r t => .cons (r.mono e) (RwAll.mono e t)
theorem RwAll.dp {K : PySem.W.Frag} {B : Hp} : ∀ {vs : List V} {ds : List PyData}, RwAll K B vs (ds.map Wv.d) → DqAll K B vs ds
  | _, [], .nil => .nil
  | _, _ :: _, .cons r t => .cons r (RwAll.dp t)
theorem RwAll.len {K : PySem.W.Frag} {B : Hp} : ∀ {vs : List V} {ws : List Wv}, RwAll K B vs ws → vs.length = ws.length
  | _, _, .nil => rfl
  | _, _, .cons _ t => by rw [List.length_cons, List.length_cons, RwAll.len t]
def AQ (W : Wd) (B : Hp) (S : Sto) (H : Hp) (rs : List Wv) (S' : Sto) : List V → Hp → Prop := fun vs H' => ∃ B', Gw B S H B' S' H' ∧ Good W B' S' H' ∧ RwAll W.K B' vs rs
/-- an expression is worth r, and leaves S' -/
def JE (X : Cx) (e : Expr) (G : Gm) (S : Sto) (r : Wv) (S' : Sto) : Prop := ∀ B σ H, Good (wd X) B S H → Sl X.K B σ G → wE X e σ H (EQ (wd X) B S H r S')
def JT (X : Cx) (e : Expr) (G : Gm) (S : Sto) (b : Bool) (S' : Sto) : Prop := ∀ B σ H, Good (wd X) B S H → Sl X.K B σ G → wT X e σ H (TQ (wd X) B S H b S')
/-- a test within and, or -/
def JTw (X : Cx) (e : Expr) (G : Gm) (S : Sto) (b : Bool) (S' : Sto) : Prop := ∀ B σ H, Good (wd X) B S H → Sl X.K B σ G → wTw X e σ H (TQ (wd X) B S H b S')
def JA (X : Cx) (es : List Expr) (G : Gm) (S : Sto) (rs : List Wv) (S' : Sto) : Prop := ∀ B σ H, Good (wd X) B S H → Sl X.K B σ G → wA X es σ H (AQ (wd X) B S H rs S')
/-- an expression makes a new owned object -/
def NQ (W : Wd) (B : Hp) (S : Sto) (H : Hp) (m : MO) (S' : Sto) : VK := fun v H' => ∃ B' p, v = .ref p ∧ S' p = none ∧ Gw B S H B' (sset S' p m) H' ∧ Good W B' (sset S' p m) H'
def JN (X : Cx) (e : Expr) (G : Gm) (S : Sto) (m : MO) (S' : Sto) : Prop := ∀ B σ H, Good (wd X) B S H → Sl X.K B σ G → wE X e σ H (NQ (wd X) B S H m S')

section
variable {X : Cx} {G : Gm} {S S1 S2 S3 : Sto} {a b c e : Expr} {pos : Pos}
theorem JE.is {r r' : Wv} (h : JE X e G S r S1) (q : r = r') : JE X e G S r' S1 := q ▸ h
theorem JE.is2 {r r' : Wv} (h : JE X e G S r S1) (q : r = r') (q2 : S1 = S2) : JE X e G S r' S2 := q ▸ q2 ▸ h
theorem JT.is {r r' : Bool} (h : JT X e G S r S1) (q : r = r') : JT X e G S r' S1 := q ▸ h

/-! ### two-place operations -/
/-- the operation r upon x and y is worth z -/
def RJ (W : Wd) (r : R2) (x y : Wv) (S : Sto) (z : Wv) (S' : Sto) : Prop := ∀ B H vx vy, Good W B S H → Rw W.K B vx x → Rw W.K B vy y → ∀ Q : VK, (∀ v H', EQ W B S H z S' v H' → Q v H') → r vx vy H Q
/-- .. that gives a new owned object -/
def RN (W : Wd) (r : R2) (x y : Wv) (S : Sto) (m : MO) (S' : Sto) : Prop := ∀ B H vx vy, Good W B S H → Rw W.K B vx x → Rw W.K B vy y → ∀ Q : VK, (∀ v H', NQ W B S H m S' v H' → Q v H') → r vx vy H Q
/-- a one-place operation; a call by values -/
def UJ (W : Wd) (r : V → Hp → VK → Prop) (x : Wv) (S : Sto) (z : Wv) (S' : Sto) : Prop := ∀ B H vx, Good W B S H → Rw W.K B vx x → ∀ Q : VK, (∀ v H', EQ W B S H z S' v H' → Q v H') → r vx H Q
def CJ (W : Wd) (r : List V → Hp → VK → Prop) (xs : List Wv) (S : Sto) (z : Wv) (S' : Sto) : Prop := ∀ B H vs, Good W B S H → RwAll W.K B vs xs → ∀ Q : VK, (∀ v H', EQ W B S H z S' v H' → Q v H') → r vs H Q
def CN (W : Wd) (r : List V → Hp → VK → Prop) (xs : List Wv) (S : Sto) (m : MO) (S' : Sto) : Prop := ∀ B H vs, Good W B S H → RwAll W.K B vs xs → ∀ Q : VK, (∀ v H', NQ W B S H m S' v H' → Q v H') → r vs H Q
theorem EQ.same {W : Wd} {B : Hp} {S : Sto} {H : Hp} {r : Wv} {v : V} (g : Good W B S H) (h : Rw W.K B v r) : EQ W B S H r S v H := ⟨B, .refl, g, h⟩
theorem EQ.comp {W : Wd} {B B1 H H1 : Hp} {S S1 S2 : Sto} {r : Wv} (w : Gw B S H B1 S1 H1) (g : Good W B1 S1 H1) {v : V} {H' : Hp} (q : EQ W B1 S1 H1 r S2 v H') : EQ W B S H r S2 v H' :=
  let ⟨B', w', g', h⟩ := q
  ⟨B', w.trans g w', g', h⟩
theorem TQ.comp {W : Wd} {B B1 H H1 : Hp} {S S1 S2 : Sto} {r : Bool} (w : Gw B S H B1 S1 H1) (g : Good W B1 S1 H1) {v : Bool} {H' : Hp} (q : TQ W B1 S1 H1 r S2 v H') : TQ W B S H r S2 v H' :=
  let ⟨e, B', w', g'⟩ := q
  ⟨e, B', w.trans g w', g'⟩
theorem AQ.comp {W : Wd} {B B1 H H1 : Hp} {S S1 S2 : Sto} {r : List Wv} (w : Gw B S H B1 S1 H1) (g : Good W B1 S1 H1) {v : List V} {H' : Hp} (q : AQ W B1 S1 H1 r S2 v H') : AQ W B S H r S2 v H' :=
  let ⟨B', w', g', h⟩ := q
  ⟨B', w.trans g w', g', h⟩
theorem NQ.comp {W : Wd} {B B1 H H1 : Hp} {S S1 S2 : Sto} {m : MO} (w : Gw B S H B1 S1 H1) (g : Good W B1 S1 H1) {v : V} {H' : Hp} (q : NQ W B1 S1 H1 m S2 v H') : NQ W B S H m S2 v H' :=
  let ⟨B', p, e, h2, w', g'⟩ := q
  ⟨B', p, e, h2, w.trans g w', g'⟩
/-- an owned list let stand for good -/
theorem NQ.frz {W : Wd} {B H : Hp} {S S2 : Sto} {ds : List PyData} {v : V} {H' : Hp} (q : NQ W B S H (.lst ds) S2 v H') : EQ W B S H (.d (.list ds)) S2 v H' := by
  obtain ⟨B', p, e, h2, w', g'⟩ := q
  subst e
  obtain ⟨B2, g2, w2, r⟩ := g'.freeze sset_same
  rw [sdel_sset h2] at g2 w2
  exact ⟨B2, w'.trans g' w2, g2, r⟩
theorem NQ.new {W : Wd} {B H : Hp} {S : Sto} {m : MO} {p : Addr} {o : HO} (g : Good W B S H) (h : H p = none) (hm : HoM W B (upd H p o) p m) : NQ W B S H m S (.ref p) (upd H p o) :=
  let ⟨g', w'⟩ := g.owned h hm
  ⟨B, p, rfl, g.snone h, w', g'⟩
theorem EQ.newT {W : Wd} {B H : Hp} {S : Sto} {p : Addr} {vs : List V} {ds : List PyData} (g : Good W B S H) (h : H p = none) (hd : DqAll W.K B vs ds) : EQ W B S H (.d (.tuple ds)) S (.ref p) (upd H p (.tup vs)) :=
  let ⟨g', w'⟩ := g.frozen h (o := .tup vs) fun _ _ z => nomatch z
  ⟨_, w', g', .tup (.inl (.inl upd_same)) (dpAll_mono w'.b.rd _ _ hd)⟩
theorem EQ.newL {W : Wd} {B H : Hp} {S : Sto} {p : Addr} {vs : List V} {ds : List PyData} (g : Good W B S H) (h : H p = none) (hd : DqAll W.K B vs ds) : EQ W B S H (.d (.list ds)) S (.ref p) (upd H p (.lst vs)) :=
  let ⟨g', w'⟩ := g.frozen h (o := .lst vs) fun _ _ z => nomatch z
  ⟨_, w', g', .lst (.inl upd_same) (dpAll_mono w'.b.rd _ _ hd)⟩
theorem JE.frz {ds : List PyData} (h : JN X e G S (.lst ds) S1) : JE X e G S (.d (.list ds)) S1 := fun B σ H g sl => wE_mono (h B σ H g sl) fun _ _ q => q.frz
/-- a name's owned list let stand for good -/
theorem JE.frzO {p : Addr} {ds : List PyData} (h : JE X e G S (.o p) S1) (hp : S1 p = some (.lst ds)) : JE X e G S (.d (.list ds)) (sdel S1 p) := fun B σ H g sl => wE_mono (h B σ H g sl) fun v H1 ⟨B1, w1, g1, r1⟩ => by
  obtain ⟨B2, g2, w2, r⟩ := g1.freeze hp
  have e : v = .ref p := r1
  subst e
  exact ⟨B2, w1.trans g1 w2, g2, r⟩

/-! ### names, constants -/
theorem je_var {i : Nat} {x : Str} {w : Wv} (hN : X.N[i]? = some x) (hG : G[i]? = some (some w)) (hv : Vis X.env.scope x := by first | exact Or.inl rfl | exact Or.inr (Or.inl rfl) | exact Or.inr (Or.inr rfl)) (hd : (x == ("__debug__" : Str)) = false := by decide)
    (hcd : (x == ("__classdict__" : Str)) = false := by decide) : JE X (.Name x pos) G S w S := fun B σ H g sl => by
  obtain ⟨v, h1, h2⟩ := sl.at_ i w hG
  exact wE_of (pe_var hN hv hd hcd) ⟨v, h1, .same g h2⟩
theorem je_int {i : Int} {j : Nat} : JE X (.Constant (.int i) j pos) G S (.d (.int i)) S := fun B σ H g sl => wE_of pe_int (.same g (.int i))
theorem je_bl {i : Bool} {j : Nat} : JE X (.Constant (.bool i) j pos) G S (.d (.bool i)) S := fun B σ H g sl => wE_of pe_bl (.same g (.bl i))
theorem je_non {j : Nat} : JE X (.Constant .none j pos) G S (.d .none) S := fun B σ H g sl => wE_of pe_non (.same g .non)
theorem je_str {i : Str} {j : Nat} : JE X (.Constant (.str i) j pos) G S (.d (.str i)) S := fun B σ H g sl => wE_of pe_str (.same g (.str i))
theorem je_glob {x : Str} {v : V} {u : Value} {d : PyData} (hg : Gl X x) (hm : X.mg x = some u) (r : RelV v u) (hd : ∀ B, Dq X.K B v d) (hdb : (x == ("__debug__" : Str)) = false := by decide) : JE X (.Name x pos) G S (.d d) S :=
  fun B σ H g sl => wE_of (pe_glob hg hm r hdb) (.same g (hd B))

/-! ### operators -/
theorem bin2 {r : R2} {x y z : Wv} (ha : JE X a G S x S1) (hb : JE X b G S1 y S2) (hr : RJ (wd X) r x y S2 z S3) {B σ H} (g : Good (wd X) B S H) (sl : Sl X.K B σ G) {Q : VK} (hq : ∀ v H', EQ (wd X) B S H z S3 v H' → Q v H') :
    wE X a σ H fun vx H1 => wE X b σ H1 fun vy H2 => r vx vy H2 Q :=
  wE_mono (ha B σ H g sl) fun vx H1 ⟨B1, w1, g1, r1⟩ => wE_mono (hb B1 σ H1 g1 (sl.mono w1.b)) fun vy H2 ⟨B2, w2, g2, r2⟩ =>
    hr B2 H2 vx vy g2 (r1.mono w2.b) r2 _ fun v H3 q => hq v H3 (EQ.comp w1 g1 (EQ.comp w2 g2 q))
theorem je_op {op : Operator} {r : R2} {x y z : Wv} (ho : OpR X (binaryOp op) r) (ha : JE X a G S x S1) (hb : JE X b G S1 y S2) (hr : RJ (wd X) r x y S2 z S3) : JE X (.BinOp a op b pos) G S z S3 := fun B σ H g sl =>
  wE_of (pe_op ho pe_w pe_w) (bin2 ha hb hr g sl fun _ _ q => q)
theorem je_cmp {op : CmpOp} {r : R2} {x y z : Wv} (ho : OpR X (compareOp op) r) (ha : JE X a G S x S1) (hb : JE X b G S1 y S2) (hr : RJ (wd X) r x y S2 z S3) (hm : behindInMarks op b = false := by first | exact nomark _ | rfl) : JE X (.Compare a [op] [b] pos) G S z S3 := fun B σ H g sl =>
  wE_of (pe_cmpR ho pe_w pe_w hm) (bin2 ha hb hr g sl fun _ _ q => q)
theorem jt_cmp {op : CmpOp} {r : R2} {x y : Wv} {k : Bool} (ho : OpR X (compareOp op) r) (ha : JE X a G S x S1) (hb : JE X b G S1 y S2) (hr : RJ (wd X) r x y S2 (.d (.bool k)) S3) (hm : behindInMarks op b = false := by first | exact nomark _ | rfl) : JT X (.Compare a [op] [b] pos) G S k S3 := fun B σ H g sl =>
  wT_of (pt_cmpR ho pe_w pe_w hm) (bin2 ha hb hr g sl fun v H' q => by
    obtain ⟨B', w', g', h⟩ := q
    cases h
    exact ⟨k, rfl, rfl, B', w', g'⟩)
/-- a op b op' c -/
theorem chain_core {r r' : R2} {x y z : Wv} {k : Bool} {w : Wv} (ha : JE X a G S x S1) (hb : JE X b G S1 y S2) (hr : RJ (wd X) r x y S2 (.d (.bool k)) S2) (h0 : k = false → w = .d (.bool false)) (h1 : k = true → JE X c G S2 z S2 ∧ RJ (wd X) r' y z S2 w S2) {B σ H} (g : Good (wd X) B S H) (sl : Sl X.K B σ G) {Q : VK} (hq : ∀ v H', EQ (wd X) B S H w S2 v H' → Q v H') :
    tChain r r' (wE X a) (wE X b) (wE X c) σ H Q :=
  wE_mono (ha B σ H g sl) fun vx H1 ⟨B1, w1, g1, r1⟩ => wE_mono (hb B1 σ H1 g1 (sl.mono w1.b)) fun vy H2 ⟨B2, w2, g2, r2⟩ =>
    hr B2 H2 vx vy g2 (r1.mono w2.b) r2 _ fun v H3 ⟨B3, w3, g3, r3⟩ => by
      cases r3
      refine ⟨k, rfl, ?_⟩
      cases k with
      | true =>
        obtain ⟨hc, hr'⟩ := h1 rfl
        refine iteT (wE_mono (hc B3 σ H3 g3 (sl.mono ((w1.b.trans w2.b).trans w3.b))) fun vz H4 ⟨B4, w4, g4, r4⟩ => ?_)
        exact hr' B4 H4 vy vz g4 (r2.mono (w3.b.trans w4.b)) r4 _ fun v5 H5 q => hq v5 H5 (EQ.comp w1 g1 (EQ.comp w2 g2 (EQ.comp w3 g3 (EQ.comp w4 g4 q))))
      | false => exact iteF (hq _ H3 (by rw [h0 rfl]; exact EQ.comp w1 g1 (EQ.comp w2 g2 ⟨B3, w3, g3, .bl false⟩)))
theorem je_chain {r r' : R2} {x y z : Wv} {k : Bool} {w : Wv} (hp : PE X e (tChain r r' (wE X a) (wE X b) (wE X c))) (ha : JE X a G S x S1) (hb : JE X b G S1 y S2) (hr : RJ (wd X) r x y S2 (.d (.bool k)) S2) (h0 : k = false → w = .d (.bool false)) (h1 : k = true → JE X c G S2 z S2 ∧ RJ (wd X) r' y z S2 w S2) :
    JE X e G S w S2 := fun B σ H g sl => wE_of hp (chain_core ha hb hr h0 h1 g sl fun _ _ q => q)
theorem jt_chain {r r' : R2} {x y z : Wv} {k k' : Bool} (hp : PT X e (tTest (tChain r r' (wE X a) (wE X b) (wE X c)))) (ha : JE X a G S x S1) (hb : JE X b G S1 y S2) (hr : RJ (wd X) r x y S2 (.d (.bool k)) S2) (h0 : k = false → k' = false) (h1 : k = true → JE X c G S2 z S2 ∧ RJ (wd X) r' y z S2 (.d (.bool k')) S2) :
    JT X e G S k' S2 := fun B σ H g sl => wT_of hp (chain_core (w := .d (.bool k')) ha hb hr (fun e => by rw [h0 e]) h1 g sl fun v H' q => by
    obtain ⟨B', w', g', h⟩ := q
    cases h
    exact ⟨k', rfl, rfl, B', w', g'⟩)
theorem je_un {op : UnaryOp} {r : V → Hp → VK → Prop} {x z : Wv} (ho : UnR X (unaryOp op) r) (ha : JE X a G S x S1) (hr : UJ (wd X) r x S1 z S2) : JE X (.UnaryOp op a pos) G S z S2 := fun B σ H g sl =>
  wE_of (pe_un ho pe_w) (wE_mono (ha B σ H g sl) fun vx H1 ⟨B1, w1, g1, r1⟩ => hr B1 H1 vx g1 r1 _ fun v H3 q => EQ.comp w1 g1 q)
/-- an expression that is True or False, as a test -/
theorem jt_val {k : Bool} (h : JE X e G S (.d (.bool k)) S1) (he : ∀ whole, isTrue e X.env whole = (do let v ← whole; standAt e.pos; holding [v] (truthy v)) := by intro _; rfl) : JT X e G S k S1 := fun B σ H g sl =>
  wT_of (pt_val pe_w he) (wE_mono (h B σ H g sl) fun v H' q => by
    obtain ⟨B', w', g', h⟩ := q
    cases h
    exact ⟨k, rfl, rfl, B', w', g'⟩)
/-! ### and, or, not -/
theorem je_one {op : BoolOp} {r : Wv} (h : JE X a G S r S1) : JE X (.BoolOp op [a] pos) G S r S1 := fun B σ H g sl => wE_of (pe_one pe_w) (h B σ H g sl)
theorem je_and {rest : List Expr} {k : Bool} {r : Wv} (ha : JE X a G S (.d (.bool k)) S) (h0 : k = false → r = .d (.bool false)) (h1 : k = true → JE X (.BoolOp .And (b :: rest) pos) G S r S) : JE X (.BoolOp .And (a :: b :: rest) pos) G S r S := fun B σ H g sl =>
  wE_of (pe_and pe_w pe_w) (wE_mono (ha B σ H g sl) fun v H1 ⟨B1, w1, g1, r1⟩ => by
    cases r1
    refine ⟨k, rfl, ?_⟩
    cases k with
    | true => exact iteT (wE_mono (h1 rfl B1 σ H1 g1 (sl.mono w1.b)) fun _ _ q => EQ.comp w1 g1 q)
    | false => exact iteF ⟨B1, w1, g1, by rw [h0 rfl]; exact .bl false⟩)
theorem je_or {rest : List Expr} {k : Bool} {r : Wv} (ha : JE X a G S (.d (.bool k)) S) (h0 : k = true → r = .d (.bool true)) (h1 : k = false → JE X (.BoolOp .Or (b :: rest) pos) G S r S) : JE X (.BoolOp .Or (a :: b :: rest) pos) G S r S := fun B σ H g sl =>
  wE_of (pe_or pe_w pe_w) (wE_mono (ha B σ H g sl) fun v H1 ⟨B1, w1, g1, r1⟩ => by
    cases r1
    refine ⟨k, rfl, ?_⟩
    cases k with
    | false => exact iteF (wE_mono (h1 rfl B1 σ H1 g1 (sl.mono w1.b)) fun _ _ q => EQ.comp w1 g1 q)
    | true => exact iteT ⟨B1, w1, g1, by rw [h0 rfl]; exact .bl true⟩)
theorem je_not {k : Bool} (ha : JE X a G S (.d (.bool k)) S1) : JE X (.UnaryOp .Not a pos) G S (.d (.bool (!k))) S1 := fun B σ H g sl =>
  wE_of (pe_not pe_w) (wE_mono (ha B σ H g sl) fun v H1 ⟨B1, w1, g1, r1⟩ => by
    cases r1
    exact ⟨k, rfl, B1, w1, g1, .bl _⟩)
theorem jt_w {k : Bool} (h : JTw X e G S k S1) : JT X e G S k S1 := fun B σ H g sl => wT_of (PW.pt pw_w) (h B σ H g sl)
theorem jw_and1 {k : Bool} (h : JT X a G S k S1) : JTw X (.BoolOp .And [a] pos) G S k S1 := fun B σ H g sl => wTw_of (pw_and1 pt_w) (h B σ H g sl)
theorem jw_or1 {k : Bool} (h : JT X a G S k S1) : JTw X (.BoolOp .Or [a] pos) G S k S1 := fun B σ H g sl => wTw_of (pw_or1 pt_w) (h B σ H g sl)
theorem jw_and {rest : List Expr} {k k' : Bool} (ha : JT X a G S k S) (h0 : k = false → k' = false) (h1 : k = true → JTw X (.BoolOp .And (b :: rest) pos) G S k' S) : JTw X (.BoolOp .And (a :: b :: rest) pos) G S k' S := fun B σ H g sl =>
  wTw_of (pw_and pt_w pw_w) (wT_mono (ha B σ H g sl) fun v H1 ⟨e, B1, w1, g1⟩ => by
    subst e
    cases v with
    | true => exact iteT (wTw_mono (h1 rfl B1 σ H1 g1 (sl.mono w1.b)) fun _ _ q => TQ.comp w1 g1 q)
    | false => exact iteF ⟨(h0 rfl).symm, B1, w1, g1⟩)
theorem jw_or {rest : List Expr} {k k' : Bool} (ha : JT X a G S k S) (h0 : k = true → k' = true) (h1 : k = false → JTw X (.BoolOp .Or (b :: rest) pos) G S k' S) : JTw X (.BoolOp .Or (a :: b :: rest) pos) G S k' S := fun B σ H g sl =>
  wTw_of (pw_or pt_w pw_w) (wT_mono (ha B σ H g sl) fun v H1 ⟨e, B1, w1, g1⟩ => by
    subst e
    cases v with
    | false => exact iteF (wTw_mono (h1 rfl B1 σ H1 g1 (sl.mono w1.b)) fun _ _ q => TQ.comp w1 g1 q)
    | true => exact iteT ⟨(h0 rfl).symm, B1, w1, g1⟩)
theorem jt_not {k : Bool} (ha : JT X a G S k S1) : JT X (.UnaryOp .Not a pos) G S (!k) S1 := fun B σ H g sl =>
  wT_of (pt_not pt_w) (wT_mono (ha B σ H g sl) fun v H1 ⟨e, q⟩ => ⟨by rw [e], q⟩)
theorem je_if {k : Bool} {r : Wv} (hc : JT X c G S k S1) (h1 : k = true → JE X a G S1 r S2) (h0 : k = false → JE X b G S1 r S2) : JE X (.IfExp c a b pos) G S r S2 := fun B σ H g sl =>
  wE_of (pe_ifExp pt_w pe_w pe_w) (wT_mono (hc B σ H g sl) fun v H1 ⟨e, B1, w1, g1⟩ => by
    subst e
    cases v with
    | true => exact iteT (wE_mono (h1 rfl B1 σ H1 g1 (sl.mono w1.b)) fun _ _ q => EQ.comp w1 g1 q)
    | false => exact iteF (wE_mono (h0 rfl B1 σ H1 g1 (sl.mono w1.b)) fun _ _ q => EQ.comp w1 g1 q))
theorem je_ifT {r : Wv} (hc : JT X c G S true S1) (h1 : JE X a G S1 r S2) : JE X (.IfExp c a b pos) G S r S2 := je_if hc (fun _ => h1) fun e => nomatch e
theorem je_ifF {r : Wv} (hc : JT X c G S false S1) (h1 : JE X b G S1 r S2) : JE X (.IfExp c a b pos) G S r S2 := je_if hc (fun e => nomatch e) fun _ => h1

/-! ### argument lists, displays -/
theorem ja_nil : JA X [] G S [] S := fun B σ H g sl => wA_of pa_nil ⟨B, .refl, g, .nil⟩
theorem ja_cons {es : List Expr} {r : Wv} {rs : List Wv} (ha : JE X e G S r S1) (hr : JA X es G S1 rs S2) (hs : starEach (e :: es) X.env = (false, eval e X.env) :: starEach es X.env := by rfl) : JA X (e :: es) G S (r :: rs) S2 := fun B σ H g sl =>
  wA_of (pa_cons pe_w pa_w hs) (wE_mono (ha B σ H g sl) fun v H1 ⟨B1, w1, g1, r1⟩ => wA_mono (hr B1 σ H1 g1 (sl.mono w1.b)) fun vs H2 ⟨B2, w2, g2, r2⟩ => ⟨B2, w1.trans g1 w2, g2, .cons (r1.mono w2.b) r2⟩)
theorem je_tup {es : List Expr} {k : Nat} {ds : List PyData} (h : JA X es G S (ds.map .d) S1) (hl : ds.length ≤ 1000 := by first | decide | simp) : JE X (.Tuple es k pos) G S (.d (.tuple ds)) S1 := fun B σ H g sl =>
  wE_of (pe_tup pa_w) (wA_mono (h B σ H g sl) fun vs H1 ⟨B1, w1, g1, r1⟩ => ⟨by have := r1.len; rw [List.length_map] at this; exact Nat.le_of_lt (small1000 (by omega)), fun p hp => EQ.comp w1 g1 (EQ.newT g1 hp r1.dp)⟩)
theorem jn_lst {es : List Expr} {ds : List PyData} (h : JA X es G S (ds.map .d) S1) (hl : ds.length ≤ 1000 := by first | decide | simp) : JN X (.List es pos) G S (.lst ds) S1 := fun B σ H g sl =>
  wE_of (pe_lst pa_w) (wA_mono (h B σ H g sl) fun vs H1 ⟨B1, w1, g1, r1⟩ => ⟨by have := r1.len; rw [List.length_map] at this; exact Nat.le_of_lt (small1000 (by omega)), fun p hp => NQ.comp w1 g1 (NQ.new g1 hp ⟨vs, upd_same, r1.dp⟩)⟩)

/-! ### calls -/
/-- of a built-in, by values -/
theorem je_cb {es : List Expr} {r : List V → Hp → VK → Prop} {rs : List Wv} {z : Wv} (hp : PE X e (tCB r (wA X es))) (ha : JA X es G S rs S1) (hr : CJ (wd X) r rs S1 z S2) : JE X e G S z S2 := fun B σ H g sl =>
  wE_of hp (wA_mono (ha B σ H g sl) fun vs H1 ⟨B1, w1, g1, r1⟩ => hr B1 H1 vs g1 r1 _ fun _ _ q => EQ.comp w1 g1 q)
theorem jn_cb {es : List Expr} {r : List V → Hp → VK → Prop} {rs : List Wv} {z : MO} (hp : PE X e (tCB r (wA X es))) (ha : JA X es G S rs S1) (hr : CN (wd X) r rs S1 z S2) : JN X e G S z S2 := fun B σ H g sl =>
  wE_of hp (wA_mono (ha B σ H g sl) fun vs H1 ⟨B1, w1, g1, r1⟩ => hr B1 H1 vs g1 r1 _ fun _ _ q => NQ.comp w1 g1 q)
/-- of a built-in's method -/
theorem je_bm {T : String} {es : List Expr} {r : V → List V → Hp → VK → Prop} {x : Wv} {rs : List Wv} {z : Wv} (hp : PE X e (tBM X.K T r (wE X a) (wA X es))) (ho : JE X a G S x S1) (ha : JA X es G S1 rs S2) (ht : ∀ B H v, Good (wd X) B S1 H → Rw X.K B v x → tyV X.K T v H)
    (hr : ∀ B H v vs, Good (wd X) B S2 H → Rw X.K B v x → RwAll X.K B vs rs → ∀ Q : VK, (∀ v' H', EQ (wd X) B S2 H z S3 v' H' → Q v' H') → r v vs H Q) : JE X e G S z S3 := fun B σ H g sl =>
  wE_of hp (wE_mono (ho B σ H g sl) fun v H1 ⟨B1, w1, g1, r1⟩ => ⟨ht B1 H1 v g1 r1, wA_mono (ha B1 σ H1 g1 (sl.mono w1.b)) fun vs H2 ⟨B2, w2, g2, r2⟩ => hr B2 H2 v vs g2 (r1.mono w2.b) r2 _ fun _ _ q => EQ.comp w1 g1 (EQ.comp w2 g2 q)⟩)
theorem je_bm0 {T : String} {r : V → List V → Hp → VK → Prop} {x : Wv} {z : Wv} (hp : PE X e (tBM0 X.K T r (wE X a))) (ho : JE X a G S x S1) (ht : ∀ B H v, Good (wd X) B S1 H → Rw X.K B v x → tyV X.K T v H)
    (hr : ∀ B H v, Good (wd X) B S1 H → Rw X.K B v x → ∀ Q : VK, (∀ v' H', EQ (wd X) B S1 H z S2 v' H' → Q v' H') → r v [] H Q) : JE X e G S z S2 := fun B σ H g sl =>
  wE_of hp (wE_mono (ho B σ H g sl) fun v H1 ⟨B1, w1, g1, r1⟩ => ⟨ht B1 H1 v g1 r1, hr B1 H1 v g1 r1 _ fun _ _ q => EQ.comp w1 g1 q⟩)
/-- a promise upon data: arguments, store; the value, the store behind -/
abbrev Rel := List Wv → Sto → Wv → Sto → Prop
def spJ (W : Wd) (rel : Rel) : Sp := fun vs H Q _ => ∃ B S ds r S', Good W B S H ∧ RwAll W.K B vs ds ∧ rel ds S r S' ∧ ∀ v H', EQ W B S H r S' v H' → Q v H'
theorem je_fn {rel : Rel} {es : List Expr} {E : XK} {rs : List Wv} {z : Wv} (hp : PE X e (tCall (spJ (wd X) rel) [] E (wA X es))) (ha : JA X es G S rs S1) (hr : rel rs S1 z S2) : JE X e G S z S2 := fun B σ H g sl =>
  wE_of hp (wA_mono (ha B σ H g sl) fun vs H1 ⟨B1, w1, g1, r1⟩ => ⟨B1, S1, rs, z, S2, g1, by rw [List.append_nil]; exact r1, hr, fun _ _ q => EQ.comp w1 g1 q⟩)
/-- a promise of a def that makes an owned object -/
def spN (W : Wd) (rel : List Wv → Sto → MO → Sto → Prop) : Sp := fun vs H Q _ => ∃ B S ds m S', Good W B S H ∧ RwAll W.K B vs ds ∧ rel ds S m S' ∧ ∀ v H', NQ W B S H m S' v H' → Q v H'
theorem jn_fn {rel : List Wv → Sto → MO → Sto → Prop} {es : List Expr} {E : XK} {rs : List Wv} {z : MO} (hp : PE X e (tCall (spN (wd X) rel) [] E (wA X es))) (ha : JA X es G S rs S1) (hr : rel rs S1 z S2) : JN X e G S z S2 := fun B σ H g sl =>
  wE_of hp (wA_mono (ha B σ H g sl) fun vs H1 ⟨B1, w1, g1, r1⟩ => ⟨B1, S1, rs, z, S2, g1, by rw [List.append_nil]; exact r1, hr, fun _ _ q => NQ.comp w1 g1 q⟩)
end

/-! ### values' rules -/
section
variable {W : Wd} {S : Sto} {i j : Int} {x y : Wv}
theorem rj_I0 {gf : Int → Int → V} {d : PyData} (hd : ∀ B, Dq W.K B (gf i j) d) : RJ W (rI0 gf) (.d (.int i)) (.d (.int j)) S (.d d) S := fun B H vx vy g r1 r2 Q q => by
  cases r1; cases r2
  exact ⟨i, j, rfl, rfl, q _ _ (.same g (hd B))⟩
theorem rj_I {C : Int → Int → Prop} {gf : Int → Int → V} {d : PyData} (hd : ∀ B, Dq W.K B (gf i j) d) (hc : C i j) : RJ W (rI C gf) (.d (.int i)) (.d (.int j)) S (.d d) S := fun B H vx vy g r1 r2 Q q => by
  cases r1; cases r2
  exact ⟨i, j, rfl, rfl, hc, q _ _ (.same g (hd B))⟩
theorem rj_add : RJ W (rI0 fun i j => .int (i + j)) (.d (.int i)) (.d (.int j)) S (.d (.int (i + j))) S := rj_I0 fun _ => .int _
theorem rj_sub : RJ W (rI0 fun i j => .int (i - j)) (.d (.int i)) (.d (.int j)) S (.d (.int (i - j))) S := rj_I0 fun _ => .int _
theorem rj_mul {C : Int → Int → Prop} (h : C i j) : RJ W (rI C fun i j => .int (i * j)) (.d (.int i)) (.d (.int j)) S (.d (.int (i * j))) S := rj_I (fun _ => .int _) h
theorem rj_div {C : Int → Int → Prop} (h : C i j) : RJ W (rI C fun i j => .int (i / j)) (.d (.int i)) (.d (.int j)) S (.d (.int (i / j))) S := rj_I (fun _ => .int _) h
theorem rj_mod {C : Int → Int → Prop} (h : C i j) : RJ W (rI C fun i j => .int (i % j)) (.d (.int i)) (.d (.int j)) S (.d (.int (i % j))) S := rj_I (fun _ => .int _) h
theorem rj_pow {C : Int → Int → Prop} (h : C i j) : RJ W (rI C fun i j => .int (i ^ j.toNat)) (.d (.int i)) (.d (.int j)) S (.d (.int (i ^ j.toNat))) S := rj_I (fun _ => .int _) h
theorem rj_lt : RJ W (rI0 fun i j => .bl (decide (i < j))) (.d (.int i)) (.d (.int j)) S (.d (.bool (decide (i < j)))) S := rj_I0 fun _ => .bl _
theorem rj_le : RJ W (rI0 fun i j => .bl (decide (i ≤ j))) (.d (.int i)) (.d (.int j)) S (.d (.bool (decide (i ≤ j)))) S := rj_I0 fun _ => .bl _
theorem rj_gt : RJ W (rI0 fun i j => .bl (decide (j < i))) (.d (.int i)) (.d (.int j)) S (.d (.bool (decide (j < i)))) S := rj_I0 fun _ => .bl _
theorem rj_ge : RJ W (rI0 fun i j => .bl (decide (j ≤ i))) (.d (.int i)) (.d (.int j)) S (.d (.bool (decide (j ≤ i)))) S := rj_I0 fun _ => .bl _
theorem uj_neg : UJ W (rU fun i => .int (-i)) (.d (.int i)) S (.d (.int (-i))) S := fun B H vx g r1 Q q => by
  cases r1
  exact ⟨i, rfl, q _ _ (.same g (.int _))⟩
/-- plain values: None, truth values, numbers, texts -/
inductive Flat : PyData → V → Prop
  | non : Flat .none .non
  | bl (b : Bool) : Flat (.bool b) (.bl b)
  | int (n : Int) : Flat (.int n) (.int n)
  | str (z : Str) : Flat (.str z) (.str z)
theorem Flat.dp {K : PySem.W.Frag} {B : Hp} {d : PyData} {v : V} (h : Flat d v) : Dq K B v d := by
  cases h with
  | non => exact .non
  | bl b => exact .bl b
  | int i => exact .int i
  | str x => exact .str x
theorem Flat.eq {K : PySem.W.Frag} {B : Hp} {d : PyData} {v u : V} (h : Flat d v) (r : Dq K B u d) : u = v := by
  cases h <;> cases r <;> rfl
theorem rj_eq {d e : PyData} {v u : V} (h1 : Flat d v) (h2 : Flat e u) (hs : scal v u = true) : RJ W rEq (.d d) (.d e) S (.d (.bool (decide (v = u)))) S := fun B H vx vy g r1 r2 Q q => by
  have e1 := h1.eq r1
  have e2 := h2.eq r2
  subst e1 e2
  exact ⟨hs, q _ _ (.same g (.bl _))⟩
theorem rj_ne {d e : PyData} {v u : V} (h1 : Flat d v) (h2 : Flat e u) (hs : scal v u = true) : RJ W rNe (.d d) (.d e) S (.d (.bool (!decide (v = u)))) S := fun B H vx vy g r1 r2 Q q => by
  have e1 := h1.eq r1
  have e2 := h2.eq r2
  subst e1 e2
  exact ⟨hs, q _ _ (.same g (.bl _))⟩
theorem rj_eqI : RJ W rEq (.d (.int i)) (.d (.int j)) S (.d (.bool (decide (i = j)))) S := by
  have h := rj_eq (W := W) (S := S) (.int i) (.int j) rfl
  rwa [show decide (V.int i = V.int j) = decide (i = j) by rw [dec_int, Bool.beq_eq_decide_eq]] at h
theorem rj_neI : RJ W rNe (.d (.int i)) (.d (.int j)) S (.d (.bool (!decide (i = j)))) S := by
  have h := rj_ne (W := W) (S := S) (.int i) (.int j) rfl
  rwa [show decide (V.int i = V.int j) = decide (i = j) by rw [dec_int, Bool.beq_eq_decide_eq]] at h
theorem rj_eqS {s t : Str} : RJ W rEq (.d (.str s)) (.d (.str t)) S (.d (.bool (decide (s = t)))) S := by
  have h := rj_eq (W := W) (S := S) (.str s) (.str t) rfl
  rwa [show decide (V.str s = V.str t) = decide (s = t) by simp] at h
def isN : PyData → Bool
  | .none => true
  | _ => false
theorem dp_isN {K : PySem.W.Frag} {B : Hp} {d : PyData} {v : V} (h : Dq K B v d) : decide (v = .non) = isN d := by
  cases h <;> simp [isN]
theorem rj_isN {d : PyData} : RJ W (fun x y H Q => y = .non ∧ Q (.bl (decide (x = .non))) H) (.d d) (.d .none) S (.d (.bool (isN d))) S := fun B H vx vy g r1 r2 Q q => by
  cases r2
  exact ⟨rfl, by rw [dp_isN r1]; exact q _ _ (.same g (.bl _))⟩
theorem rj_notN {d : PyData} : RJ W (fun x y H Q => y = .non ∧ Q (.bl (!decide (x = .non))) H) (.d d) (.d .none) S (.d (.bool (!isN d))) S := fun B H vx vy g r1 r2 Q q => by
  cases r2
  exact ⟨rfl, by rw [dp_isN r1]; exact q _ _ (.same g (.bl _))⟩
theorem rj_eqD {d e : PyData} (h1 : SeqAt.shaped d = true) (h2 : SeqAt.shaped e = true) : RJ W (rEqD W.K) (.d d) (.d e) S (.d (.bool (PyData.eqv d e))) S := fun B H vx vy g r1 r2 Q q =>
  ⟨d, e, Dq.dp _ _ (dp_mono g.ex _ _ r1), Dq.dp _ _ (dp_mono g.ex _ _ r2), h1, h2, q _ _ (.same g (.bl _))⟩
theorem rj_neD {d e : PyData} (h1 : SeqAt.shaped d = true) (h2 : SeqAt.shaped e = true) : RJ W (rNeD W.K) (.d d) (.d e) S (.d (.bool (!PyData.eqv d e))) S := fun B H vx vy g r1 r2 Q q =>
  ⟨d, e, Dq.dp _ _ (dp_mono g.ex _ _ r1), Dq.dp _ _ (dp_mono g.ex _ _ r2), h1, h2, q _ _ (.same g (.bl _))⟩
/-! ### sequences that are read -/
inductive IsL (S : Sto) : Wv → List PyData → Prop
  | d {ds} : IsL S (.d (.list ds)) ds
  | o {a ds} : S a = some (.lst ds) → IsL S (.o a) ds
theorem IsL.to {B H : Hp} {v : V} {w : Wv} {ds : List PyData} (h : IsL S w ds) (g : Good W B S H) (r : Rw W.K B v w) : ∃ a vs, v = .ref a ∧ SqL W.K H a vs ∧ DqAll W.K B vs ds := by
  cases h with
  | d => cases r with
    | lst hs ha => exact ⟨_, _, rfl, .inl (g.ex _ _ hs), ha⟩
  | @o a ds hs =>
    obtain ⟨hb, vs, h1, h2⟩ := g.own a _ hs
    exact ⟨a, vs, r, .inl (.inl h1), h2⟩
theorem tup_to {B H : Hp} {v : V} {ds : List PyData} (g : Good W B S H) (r : Rw W.K B v (.d (.tuple ds))) : ∃ a vs, v = .ref a ∧ SqT W.K H a vs ∧ DqAll W.K B vs ds := by
  cases r with
  | tup hs ha => exact ⟨_, _, rfl, sqt_mono g.ex hs, ha⟩
theorem dpAll_at {K : PySem.W.Frag} {B : Hp} {vs : List V} {ds : List PyData} {i : Int} {d : PyData} (h : DqAll K B vs ds) (e : atI ds i = some d) : ∃ v, atI vs i = some v ∧ Dq K B v d := by
  unfold atI at e ⊢
  rw [dpAll_len h]
  cases q : ixN ds.length i with
  | none => rw [q] at e; cases e
  | some k =>
    rw [q] at e
    exact dpAll_get h e
theorem rj_ixL {i : Int} {w : Wv} {ds : List PyData} {d : PyData} (h : IsL S w ds) (e : atI ds i = some d) : RJ W (rIxL W.K) w (.d (.int i)) S (.d d) S := fun B H vx vy g r1 r2 Q q => by
  obtain ⟨a, vs, rfl, h1, h2⟩ := h.to g r1
  obtain ⟨v, h3, h4⟩ := dpAll_at h2 e
  cases r2
  exact ⟨a, vs, i, v, rfl, rfl, h1, h3, q _ _ (.same g h4)⟩
theorem rj_ixT {i : Int} {ds : List PyData} {d : PyData} (e : atI ds i = some d) : RJ W (rIxT W.K) (.d (.tuple ds)) (.d (.int i)) S (.d d) S := fun B H vx vy g r1 r2 Q q => by
  obtain ⟨a, vs, rfl, h1, h2⟩ := tup_to g r1
  obtain ⟨v, h3, h4⟩ := dpAll_at h2 e
  cases r2
  exact ⟨a, vs, i, v, rfl, rfl, h1, h3, q _ _ (.same g h4)⟩
/-- membership among plain values -/
inductive FlatAll : List PyData → List V → Prop
  | nil : FlatAll [] []
  | cons {d v ds vs} : Flat d v → FlatAll ds vs → FlatAll (d :: ds) (v :: vs)
theorem FlatAll.eq {K : PySem.W.Frag} {B : Hp} : ∀ {ds : List PyData} {vs us : List V}, FlatAll ds vs → DqAll K B us ds → us = vs
  | _, _, _, .nil, .nil => rfl
  | _, _, _, .cons h t, .cons r s => by rw [h.eq r, FlatAll.eq t s]
theorem rj_inT {neg : Bool} {d : PyData} {v : V} {ds : List PyData} {vs : List V} (h : Flat d v) (ht : FlatAll ds vs) (hf : flatV v = true) (hfs : vs.all flatV = true) : RJ W (rIn W.K neg) (.d d) (.d (.tuple ds)) S (.d (.bool (if neg then !inV v vs else inV v vs))) S := fun B H vx vy g r1 r2 Q q => by
  obtain ⟨a, us, rfl, h1, h2⟩ := tup_to g r2
  have e1 := h.eq r1
  have e2 := ht.eq h2
  subst e1 e2
  exact ⟨a, _, rfl, .inr h1, hf, hfs, q _ _ (.same g (.bl _))⟩
theorem rj_inL {neg : Bool} {d : PyData} {v : V} {w : Wv} {ds : List PyData} {vs : List V} (hl : IsL S w ds) (h : Flat d v) (ht : FlatAll ds vs) (hf : flatV v = true) (hfs : vs.all flatV = true) : RJ W (rIn W.K neg) (.d d) w S (.d (.bool (if neg then !inV v vs else inV v vs))) S := fun B H vx vy g r1 r2 Q q => by
  obtain ⟨a, us, rfl, h1, h2⟩ := hl.to g r2
  have e1 := h.eq r1
  have e2 := ht.eq h2
  subst e1 e2
  exact ⟨a, _, rfl, .inl h1, hf, hfs, q _ _ (.same g (.bl _))⟩
end
end J

-- JL3
set_option Elab.async false
set_option linter.all false
set_option maxRecDepth 100000
set_option maxHeartbeats 4000000
/-! Statements, targets, loops, comprehensions, defs. -/
namespace J
open PySem L2

/-! ### what is wanted behind a statement -/
structure DE where
  nx : Gm → Sto → Prop
  rt : Wv → Sto → Prop := fun _ _ => False
  bk : Gm → Sto → Prop := fun _ _ => False
  ct : Gm → Sto → Prop := fun _ _ => False
def stQ (W : Wd) (B : Hp) (S : Sto) (H : Hp) (P : Gm → Sto → Prop) : L2.St → Hp → Prop := fun σ' H' => ∃ B' G' S', Gw B S H B' S' H' ∧ Good W B' S' H' ∧ Sl W.K B' σ' G' ∧ P G' S'
def rtQ (W : Wd) (B : Hp) (S : Sto) (H : Hp) (P : Wv → Sto → Prop) : VK := fun v H' => ∃ r S', EQ W B S H r S' v H' ∧ P r S'
def toE (W : Wd) (B : Hp) (S : Sto) (H : Hp) (D : DE) : Ends := ⟨stQ W B S H D.nx, rtQ W B S H D.rt, stQ W B S H D.bk, stQ W B S H D.ct⟩
theorem stQ.comp {W : Wd} {B B1 H H1 : Hp} {S S1 : Sto} {P P' : Gm → Sto → Prop} (w : Gw B S H B1 S1 H1) (g : Good W B1 S1 H1) (f : ∀ G S, P G S → P' G S) {σ H'} (q : stQ W B1 S1 H1 P σ H') : stQ W B S H P' σ H' :=
  let ⟨B', G', S', w', g', sl, p⟩ := q
  ⟨B', G', S', w.trans g w', g', sl, f _ _ p⟩
theorem rtQ.comp {W : Wd} {B B1 H H1 : Hp} {S S1 : Sto} {P P' : Wv → Sto → Prop} (w : Gw B S H B1 S1 H1) (g : Good W B1 S1 H1) (f : ∀ G S, P G S → P' G S) {σ H'} (q : rtQ W B1 S1 H1 P σ H') : rtQ W B S H P' σ H' :=
  let ⟨r, S', e, p⟩ := q
  ⟨r, S', EQ.comp w g e, f _ _ p⟩
/-- one statement; a block -/
def JS1 (X : Cx) (st : Stmt) (G : Gm) (S : Sto) (D : DE) : Prop := ∀ B σ H, Good (wd X) B S H → Sl X.K B σ G → wS X st (toE (wd X) B S H D) σ H
def JS (X : Cx) (st : List Stmt) (G : Gm) (S : Sto) (D : DE) : Prop := ∀ B σ H, Good (wd X) B S H → Sl X.K B σ G → wSs X st (toE (wd X) B S H D) σ H
section
variable {X : Cx} {G G1 G2 : Gm} {S S1 S2 S3 : Sto} {a b c e : Expr} {st : Stmt} {rest body els : List Stmt} {pos : Pos} {D D' : DE}
theorem wSs_to {σ : L2.St} {B B1 H0 H H1 : Hp} (w : Gw B S H B1 S1 H1) (g : Good (wd X) B1 S1 H1) (h : wSs X body (toE (wd X) B1 S1 H1 D) σ H0) (f1 : ∀ G S, D.nx G S → D'.nx G S) (f2 : ∀ G S, D.rt G S → D'.rt G S) (f3 : ∀ G S, D.bk G S → D'.bk G S) (f4 : ∀ G S, D.ct G S → D'.ct G S) :
    wSs X body (toE (wd X) B S H D') σ H0 := wSs_mono h (fun _ _ q => stQ.comp w g f1 q) (fun _ _ q => rtQ.comp w g f2 q) (fun _ _ q => stQ.comp w g f3 q) (fun _ _ q => stQ.comp w g f4 q)
theorem JS.mono (h : JS X body G S D) (f1 : ∀ G S, D.nx G S → D'.nx G S) (f2 : ∀ G S, D.rt G S → D'.rt G S) (f3 : ∀ G S, D.bk G S → D'.bk G S) (f4 : ∀ G S, D.ct G S → D'.ct G S) : JS X body G S D' :=
  fun B σ H g sl => wSs_to .refl g (h B σ H g sl) f1 f2 f3 f4
theorem JS1.mono (h : JS1 X st G S D) (f1 : ∀ G S, D.nx G S → D'.nx G S) (f2 : ∀ G S, D.rt G S → D'.rt G S) (f3 : ∀ G S, D.bk G S → D'.bk G S) (f4 : ∀ G S, D.ct G S → D'.ct G S) : JS1 X st G S D' :=
  fun B σ H g sl => wS_mono (h B σ H g sl) (fun _ _ q => stQ.comp .refl g f1 q) (fun _ _ q => rtQ.comp .refl g f2 q) (fun _ _ q => stQ.comp .refl g f3 q) (fun _ _ q => stQ.comp .refl g f4 q)
theorem js_nil (h : D.nx G S) : JS X [] G S D := fun B σ H g sl => wSs_of pss_nil ⟨B, G, S, .refl, g, sl, h⟩
theorem js_cons (h : JS1 X st G S { D with nx := fun G' S' => JS X rest G' S' D }) : JS X (st :: rest) G S D := fun B σ H g sl =>
  wSs_of (pss_cons ps_w pss_w) (wS_mono (h B σ H g sl) (fun σ' H' ⟨B', G', S', w', g', sl', q⟩ => wSs_to w' g' (q B' σ' H' g' sl') (fun _ _ z => z) (fun _ _ z => z) (fun _ _ z => z) (fun _ _ z => z)) (fun _ _ z => z) (fun _ _ z => z) (fun _ _ z => z))
/-- owned objects forgotten, an owned list let stand for good: steps of the proof alone -/
theorem js_drop (h : JS X body G S1 D) (k : SubS S1 S) : JS X body G S D := fun B σ H g sl =>
  wSs_to (Gw.drop Gw.refl k) (g.drop k) (h B σ H (g.drop k) sl) (fun _ _ z => z) (fun _ _ z => z) (fun _ _ z => z) (fun _ _ z => z)

/-- an owned dict of which something is known -/
theorem js_open {p : Addr} {Φ : List (NestedKey × PyData) → Prop} (hs : S p = some (.dinv Φ)) (h : ∀ kvs, Φ kvs → JS X body G (sset S p (.dct kvs)) D) : JS X body G S D := fun B σ H g sl => by
  obtain ⟨hb, kvs, hk, h1⟩ := g.own p _ hs
  have g' : Good (wd X) B (sset S p (.dct kvs)) H := ⟨g.ex, fun a m e => by
    by_cases c : a = p
    · subst c
      rw [sset_same] at e; cases e
      exact ⟨hb, h1⟩
    · rw [sset_ne c] at e
      exact g.own a m e⟩
  have w' : Gw B S H B (sset S p (.dct kvs)) H := ⟨Leb.refl B, fun _ _ e _ => e, fun a e hb' hs' => ⟨hb', by rw [sset_ne (fun z => by rw [z, hs] at hs'; cases hs')]; exact hs'⟩⟩
  exact wSs_to w' g' (h kvs hk B σ H g' sl) (fun _ _ z => z) (fun _ _ z => z) (fun _ _ z => z) (fun _ _ z => z)
/-- a name's value of which something is known -/
theorem js_pick {i : Nat} {Φ : PyData → Prop} (hG : G[i]? = some (some (.s Φ))) (h : ∀ d, Φ d → JS X body (G.set i (some (.d d))) S D) : JS X body G S D := fun B σ H g sl => by
  obtain ⟨v, h1, d, h2, h3⟩ := sl.at_ i _ hG
  have e : σ.set i (some v) = σ := by
    refine List.ext_getElem? fun k => ?_
    by_cases c : i = k
    · subst c
      rw [List.getElem?_set_self (List.getElem?_eq_some_iff.mp h1).1, h1]
    · rw [List.getElem?_set_ne c]
  have sl2 := sl.set i (show Rw X.K B v (.d d) from h3)
  rw [e] at sl2
  exact h d h2 B σ H g sl2
/-- a name forgotten -/
theorem js_forget {i : Nat} (h : JS X body (G.set i none) S D) : JS X body G S D := fun B σ H g sl => by
  refine h B σ H g ⟨by rw [List.length_set]; exact sl.len, fun j w q => ?_⟩
  by_cases e : i = j
  · subst e
    rw [List.getElem?_set] at q
    split at q
    · split at q <;> cases q
    · rename_i c; exact absurd rfl c
  · rw [List.getElem?_set_ne e] at q
    exact sl.at_ j w q

/-! ### targets -/
/-- only the slots js differ -/
def Ch (js : List Nat) (σ σ' : L2.St) : Prop := σ'.length = σ.length ∧ ∀ k, k ∉ js → σ'[k]? = σ[k]?
theorem Ch.refl {σ : L2.St} : Ch [] σ σ := ⟨rfl, fun _ _ => rfl⟩
theorem Ch.trans {js ks : List Nat} {σ σ1 σ2 : L2.St} (h : Ch js σ σ1) (k : Ch ks σ1 σ2) : Ch (js ++ ks) σ σ2 :=
  ⟨k.1.trans h.1, fun n hn => (k.2 n fun z => hn (List.mem_append_right _ z)).trans (h.2 n fun z => hn (List.mem_append_left _ z))⟩
theorem Ch.set {σ : L2.St} {i : Nat} {v : Option V} : Ch [i] σ (σ.set i v) := ⟨List.length_set, fun k hk => List.getElem?_set_ne (fun e => hk (by rw [e]; exact List.mem_singleton.mpr rfl))⟩
theorem wipe_get {σ : L2.St} : ∀ (vs : List Nat) (k : Nat), (wipe σ vs)[k]? = if k ∈ vs ∧ k < σ.length then some none else σ[k]?
  | [], k => by simp [wipe]
  | v :: vs, k => by
    show ((wipe σ vs).set v none)[k]? = _
    by_cases e : v = k
    · subst e
      by_cases hl : v < σ.length
      · rw [List.getElem?_set_self (by rw [wipe_length]; exact hl), if_pos ⟨List.mem_cons_self, hl⟩]
      · rw [List.getElem?_eq_none (by rw [List.length_set, wipe_length]; omega), if_neg (fun z => hl z.2), List.getElem?_eq_none (by omega)]
    · rw [List.getElem?_set_ne e, wipe_get vs k]
      by_cases h : k ∈ vs ∧ k < σ.length
      · rw [if_pos h, if_pos ⟨List.mem_cons_of_mem _ h.1, h.2⟩]
      · rw [if_neg h, if_neg (fun z => h ⟨(List.mem_cons.mp z.1).resolve_left (fun z' => e z'.symm), z.2⟩)]
theorem Ch.wiped {js vs : List Nat} {σ σ' : L2.St} (h : Ch js (wipe σ vs) σ') (hs : ∀ j ∈ js, j ∈ vs) : wipe σ' vs = wipe σ vs := by
  refine List.ext_getElem? fun k => ?_
  have hl : σ'.length = σ.length := by rw [h.1, wipe_length]
  rw [wipe_get, wipe_get, hl]
  by_cases c : k ∈ vs ∧ k < σ.length
  · rw [if_pos c, if_pos c]
  · rw [if_neg c, if_neg c]
    by_cases hk : k ∈ vs
    · have : ¬ k < σ.length := fun z => c ⟨hk, z⟩
      rw [List.getElem?_eq_none (by omega), List.getElem?_eq_none (by omega)]
    · rw [h.2 k (fun z => hk (hs k z)), wipe_get, if_neg c]
/-- the target takes w: from the names G to G' -/
def JG (X : Cx) (tg : Expr) (S : Sto) (w : Wv) (js : List Nat) (G G' : Gm) : Prop := ∀ B σ H v, Good (wd X) B S H → Sl X.K B σ G → Rw X.K B v w → ∀ Q : L2.St → Hp → Prop, (∀ σ', Sl X.K B σ' G' → Ch js σ σ' → Q σ' H) → wG X tg v σ H Q
def JGs (X : Cx) (ts : List Expr) (S : Sto) (ws : List Wv) (js : List Nat) (G G' : Gm) : Prop := ∀ B σ H vs, Good (wd X) B S H → Sl X.K B σ G → RwAll X.K B vs ws → ∀ Q : L2.St → Hp → Prop, (∀ σ', Sl X.K B σ' G' → Ch js σ σ' → Q σ' H) → wGs X ts vs σ H Q
theorem jg_name {i : Nat} {x : Str} {w : Wv} (hN : X.N.Nodup) (hi : X.N[i]? = some x) (hx : Loc X.env.scope x := by first | exact Or.inl rfl | exact Or.inr rfl) (hf : X.fn x = true ∨ X.env.scope.names.lookup x = some .local := by first | exact .inl rfl | exact .inr rfl | assumption) :
    JG X (.Name x pos) S w [i] G (G.set i (some w)) := fun B σ H v g sl r Q q => wG_of (pg_name hN hi hx hf) (q _ (sl.set i r) .set)
theorem jgs_nil : JGs X [] S [] [] G G := fun B σ H vs g sl r Q q => by
  cases r
  exact wGs_of pgs_nil ⟨rfl, q σ sl .refl⟩
theorem jgs_cons {es : List Expr} {w : Wv} {ws : List Wv} {js ks : List Nat} (h1 : JG X e S w js G G1) (h2 : JGs X es S ws ks G1 G2) (hs : (assignEach (e :: es) X.env).map (·.2) = assign e X.env :: (assignEach es X.env).map (·.2) := by rfl) : JGs X (e :: es) S (w :: ws) (js ++ ks) G G2 := fun B σ H vs g sl r Q q => by
  cases r with
  | cons r rr => exact wGs_of (pgs_cons pg_w pgs_w hs) ⟨_, _, rfl, h1 B σ H _ g sl r _ fun σ1 s1 c1 => h2 B σ1 H _ g s1 rr _ fun σ2 s2 c2 => q σ2 s2 (c1.trans c2)⟩
theorem RwAll.of_dp {K : PySem.W.Frag} {B : Hp} : ∀ {vs : List V} {ds : List PyData}, DqAll K B vs ds → RwAll K B vs (ds.map Wv.d)
  | _, _, .nil => .nil
  | _, _, .cons r t => .cons r (RwAll.of_dp t)
theorem jg_tup {es : List Expr} {k : Nat} {ds : List PyData} {js : List Nat} (hc : X.calm = true) (h : JGs X es S (ds.map .d) js G G1) (hn : (assignEach es X.env).length = ds.length := by rfl) (hst : (assignEach es X.env).findIdx? (·.1) = none := by rfl) : JG X (.Tuple es k pos) S (.d (.tuple ds)) js G G1 := fun B σ H v g sl r Q q => by
  obtain ⟨a, vs, e, h1, h2⟩ := tup_to g r
  refine wG_of (pg_tup (n := ds.length) hc pgs_w hn hst) ⟨a, vs, e, h1, dpAll_len h2, ?_⟩
  exact h B σ H vs g sl (RwAll.of_dp h2) Q q

/-! ### small statements -/
theorem js_set {i : Nat} {x : Str} {w : Wv} {pos' : Pos} (hN : X.N.Nodup) (hi : X.N[i]? = some x) (he : JE X e G S w S1) (h : JS X rest (G.set i (some w)) S1 D) (hx : Loc X.env.scope x := by first | exact Or.inl rfl | exact Or.inr rfl) (hs : swapsWith e (some (.Name x pos')) pos.line X.env = pure false := by rfl)
    (hf : X.fn x = true ∨ X.env.scope.names.lookup x = some .local := by first | exact .inl rfl | exact .inr rfl | assumption) : JS X (.Assign [.Name x pos'] e pos :: rest) G S D := js_cons fun B σ H g sl =>
  wS_of (ps_set hN hi hx pe_w hs hf) (wE_mono (he B σ H g sl) fun v H1 ⟨B1, w1, g1, r1⟩ => ⟨B1, _, S1, w1, g1, (sl.mono w1.b).set i r1, h⟩)
/-- the name takes a new owned object -/
theorem js_setN {i : Nat} {x : Str} {m : MO} {pos' : Pos} (hN : X.N.Nodup) (hi : X.N[i]? = some x) (he : JN X e G S m S1) (h : ∀ p, S1 p = none → JS X rest (G.set i (some (.o p))) (sset S1 p m) D) (hx : Loc X.env.scope x := by first | exact Or.inl rfl | exact Or.inr rfl) (hs : swapsWith e (some (.Name x pos')) pos.line X.env = pure false := by rfl)
    (hf : X.fn x = true ∨ X.env.scope.names.lookup x = some .local := by first | exact .inl rfl | exact .inr rfl | assumption) : JS X (.Assign [.Name x pos'] e pos :: rest) G S D := js_cons fun B σ H g sl =>
  wS_of (ps_set hN hi hx pe_w hs hf) (wE_mono (he B σ H g sl) fun v H1 ⟨B1, p, ev, hp, w1, g1⟩ => ⟨B1, _, _, w1, g1, (sl.mono w1.b).set i (show Rw X.K B1 v (.o p) from ev), h p hp⟩)
/-- a, b = (a value of one expression) -/
theorem js_unpack {tg : Expr} {w : Wv} {js : List Nat} (he : JE X e G S w S1) (hg : JG X tg S1 w js G G1) (h : JS X rest G1 S1 D) (hs : swapsWithSole [tg] e pos.line X.env = pure false := by rfl) (hw : swappedStores [tg] e X.env = pure none := by rfl)
    (h1 : (assignEach [tg] X.env).map (·.2) = [assign tg X.env] := by rfl) : JS X (.Assign [tg] e pos :: rest) G S D := js_cons fun B σ H g sl =>
  wS_of (ps_asg pe_w pg_w hs hw h1) (wE_mono (he B σ H g sl) fun v H1 ⟨B1, w1, g1, r1⟩ => hg B1 σ H1 v g1 (sl.mono w1.b) r1 _ fun σ' s' _ => ⟨B1, G1, S1, w1, g1, s', h⟩)
/-- what an argument list leaves, some of it new owned objects -/
theorem js_par {i j : Nat} {x y : Str} {a b : Expr} {w w' : Wv} {px py pt : Pos} {kt k2 : Nat} {pt2 : Pos} (hp : PS X st (tPar i j (wA X [a, b]))) (ha : JA X [a, b] G S [w, w'] S1) (h : JS X rest ((G.set i (some w)).set j (some w')) S1 D) : JS X (st :: rest) G S D := js_cons fun B σ H g sl =>
  wS_of hp (wA_mono (ha B σ H g sl) fun vs H1 ⟨B1, w1, g1, r1⟩ => by
    cases r1 with
    | cons r1 rr => cases rr with
      | cons r2 rr =>
        cases rr
        exact ⟨_, _, rfl, B1, _, S1, w1, g1, ((sl.mono w1.b).set i r1).set j r2, h⟩)
theorem js_expr {w : Wv} (he : JE X e G S w S1) (h : JS X rest G S1 D) (hs : swapsWith e none pos.line X.env = pure false := by rfl) : JS X (.Expr e pos :: rest) G S D := js_cons fun B σ H g sl =>
  wS_of (ps_expr pe_w hs) (wE_mono (he B σ H g sl) fun v H1 ⟨B1, w1, g1, r1⟩ => ⟨B1, G, S1, w1, g1, sl.mono w1.b, h⟩)
theorem js_ret {w : Wv} (he : JE X e G S w S1) (h : D.rt w S1) : JS X (.Return (some e) pos :: rest) G S D := js_cons fun B σ H g sl =>
  wS_of (ps_ret pe_w) (wE_mono (he B σ H g sl) fun v H1 q => ⟨w, S1, q, h⟩)
/-- an owned object is handed back -/
theorem js_cont (h : D.ct G S) : JS X (.Continue pos :: rest) G S D := js_cons fun B σ H g sl => wS_of ps_continue ⟨B, G, S, .refl, g, sl, h⟩
theorem js_brk (h : D.bk G S) : JS X (.Break pos :: rest) G S D := js_cons fun B σ H g sl => wS_of ps_break ⟨B, G, S, .refl, g, sl, h⟩
theorem js_if {k : Bool} (hc : JT X c G S k S1) (h1 : k = true → JS X body G S1 { D with nx := fun G' S' => JS X rest G' S' D }) (h0 : k = false → JS X els G S1 { D with nx := fun G' S' => JS X rest G' S' D }) : JS X (.If c body els pos :: rest) G S D := js_cons fun B σ H g sl =>
  wS_of (ps_if pt_w pss_w pss_w) (wT_mono (hc B σ H g sl) fun v H1 ⟨e, B1, w1, g1⟩ => by
    subst e
    cases v with
    | true => exact iteT (wSs_to w1 g1 (h1 rfl B1 σ H1 g1 (sl.mono w1.b)) (fun _ _ z => z) (fun _ _ z => z) (fun _ _ z => z) (fun _ _ z => z))
    | false => exact iteF (wSs_to w1 g1 (h0 rfl B1 σ H1 g1 (sl.mono w1.b)) (fun _ _ z => z) (fun _ _ z => z) (fun _ _ z => z) (fun _ _ z => z)))
theorem js_ifT (hc : JT X c G S true S1) (h1 : JS X body G S1 { D with nx := fun G' S' => JS X rest G' S' D }) : JS X (.If c body els pos :: rest) G S D := js_if hc (fun _ => h1) fun e => nomatch e
theorem js_ifF (hc : JT X c G S false S1) (h0 : JS X els G S1 { D with nx := fun G' S' => JS X rest G' S' D }) : JS X (.If c body els pos :: rest) G S D := js_if hc (fun e => nomatch e) fun _ => h0
/-- an if without else that is not taken -/
theorem js_no (hc : JT X c G S false S1) (h0 : JS X rest G S1 D) : JS X (.If c body [] pos :: rest) G S D := js_ifF hc (js_nil h0)
/-- if c: raise .. where c is False -/
theorem js_aug {i : Nat} {x : Str} {op : Operator} {pos' : Pos} {ti : TIp} {w0 w z : Wv} (hN : X.N.Nodup) (hi : X.N[i]? = some x) (hG : G[i]? = some (some w0)) (ho : PIp X op ti) (he : JE X e G S w S1) (hr : RJ (wd X) ti w0 w S1 z S2) (h : JS X rest (G.set i (some z)) S2 D)
    (hx : Loc X.env.scope x := by first | exact Or.inl rfl | exact Or.inr rfl) (hf : X.fn x = true ∨ X.env.scope.names.lookup x = some .local := by first | exact .inl rfl | exact .inr rfl | assumption) : JS X (.AugAssign (.Name x pos') op e pos :: rest) G S D := js_cons fun B σ H g sl => by
  obtain ⟨v0, h1, h2⟩ := sl.at_ i w0 hG
  refine wS_of (ps_aug hN hi hx pe_w ho hf) ⟨v0, h1, wE_mono (he B σ H g sl) fun v H1 ⟨B1, w1, g1, r1⟩ => ?_⟩
  refine hr B1 H1 v0 v g1 (h2.mono w1.b) r1 _ fun v3 H3 ⟨B3, w3, g3, r3⟩ => ⟨B3, _, S2, w1.trans g1 w3, g3, (sl.mono (w1.b.trans w3.b)).set i r3, h⟩

/-! ### while -/
theorem js_while {Pv : Nat → Gm → Sto → Prop} {m0 : Nat} (hp : PassesOwn (model X.prog X.w) X.A X.env X.xe) (h0 : Pv m0 G S)
    (hs : ∀ m G' S', Pv m G' S' → ∃ k S1, JT X c G' S' k S1 ∧ (k = true → JS X body G' S1 { D with nx := fun G2 S2 => ∃ m', m' < m ∧ Pv m' G2 S2, ct := fun G2 S2 => ∃ m', m' < m ∧ Pv m' G2 S2, bk := fun G' S' => JS X rest G' S' D }) ∧ (k = false → JS X rest G' S1 D)) :
    JS X (.While c body [] pos :: rest) G S D := js_cons fun B σ H g sl => by
  refine wS_of (ps_while hp pt_w pss_w) ⟨fun m σ' H' => stQ (wd X) B S H (Pv m) σ' H', ⟨m0, B, G, S, .refl, g, sl, h0⟩, fun m σ' H' ⟨B', G', S', w', g', sl', p⟩ => ?_⟩
  obtain ⟨k, S1, ht, h1, h2⟩ := hs m G' S' p
  refine wT_mono (ht B' σ' H' g' sl') fun v H1 ⟨e, B1, w1, g1⟩ => ?_
  subst e
  cases v with
  | true =>
    refine iteT ⟨fun σ2 H2 => stQ (wd X) B S H (fun G2 S2 => ∃ m', m' < m ∧ Pv m' G2 S2) σ2 H2, fun σ2 H2 ⟨B2, G2, S2, w2, g2, sl2, m', hm, p2⟩ => ⟨m', hm, B2, G2, S2, w2, g2, sl2, p2⟩, ?_⟩
    exact wSs_mono (h1 rfl B1 σ' H1 g1 (sl'.mono w1.b)) (fun _ _ q => stQ.comp (w'.trans g' w1) g1 (fun _ _ z => z) q) (fun _ _ q => rtQ.comp (w'.trans g' w1) g1 (fun _ _ z => z) q) (fun _ _ q => stQ.comp (w'.trans g' w1) g1 (fun _ _ z => z) q) (fun _ _ q => stQ.comp (w'.trans g' w1) g1 (fun _ _ z => z) q)
  | false => exact iteF ⟨B1, G', S1, w'.trans g' w1, g1, sl'.mono w1.b, h2 rfl⟩

/-! ### what is walked -/
/-- J gives the data ds, one after another, while the store keeps hold -/
def Yl (W : Wd) (J : It) (B0 : Hp) (hold : Sto → Prop) (ds : List PyData) : Prop := ∀ B S H, Leb B0 B → hold S → Good W B S H →
  (∀ i d, ds[i]? = some d → J.go i H ∧ ∀ x H', J.yld i H x H' → EQ W B S H (.d d) S x H') ∧ ∀ i, ds.length ≤ i → J.stop i H
def JI (X : Cx) (tg iter : Expr) (G : Gm) (S : Sto) (ds : List PyData) (hold : Sto → Prop) (S1 : Sto) : Prop := ∀ B σ H, Good (wd X) B S H → Sl X.K B σ G → wI X tg iter σ H fun J H1 => ∃ B1, Gw B S H B1 S1 H1 ∧ Good (wd X) B1 S1 H1 ∧ Yl (wd X) J B1 hold ds
theorem ji_list {tg : Expr} {ds : List PyData} (he : JE X e G S (.d (.list ds)) S1) : JI X tg e G S ds (fun _ => True) S1 := fun B σ H g sl =>
  wI_of (pi_list pe_w) (wE_mono (he B σ H g sl) fun v H1 ⟨B1, w1, g1, r1⟩ => by
    cases r1 with
    | @lst a vs _ hs ha =>
      refine ⟨a, rfl, ⟨vs, .inl (g1.ex _ _ hs)⟩, B1, w1, g1, fun B2 S2 H2 le _ g2 => ⟨fun i d hd => ?_, fun i hi => ⟨vs, .inl (g2.ex _ _ (le.rd _ _ hs)), by rw [dpAll_len ha]; exact hi⟩⟩⟩
      obtain ⟨u, h1, h2⟩ := dpAll_get ha hd
      refine ⟨⟨vs, u, .inl (g2.ex _ _ (le.rd _ _ hs)), h1⟩, fun x H' ⟨e1, e2⟩ => ?_⟩
      subst e1
      have := e2 vs (.inl (g2.ex _ _ (le.rd _ _ hs)))
      rw [h1] at this; cases this
      exact .same g2 (dp_mono le.rd _ _ h2))
theorem ji_tup {tg : Expr} {ds : List PyData} (he : JE X e G S (.d (.tuple ds)) S1) : JI X tg e G S ds (fun _ => True) S1 := fun B σ H g sl =>
  wI_of (pi_tup pe_w) (wE_mono (he B σ H g sl) fun v H1 ⟨B1, w1, g1, r1⟩ => by
    cases r1 with
    | @tup a vs _ hs ha =>
      refine ⟨a, rfl, ⟨vs, sqt_mono g1.ex hs⟩, B1, w1, g1, fun B2 S2 H2 le _ g2 => ⟨fun i d hd => ?_, fun i hi => ⟨vs, sqt_mono g2.ex (sqt_mono le.rd hs), by rw [dpAll_len ha]; exact hi⟩⟩⟩
      obtain ⟨u, h1, h2⟩ := dpAll_get ha hd
      refine ⟨⟨vs, u, sqt_mono g2.ex (sqt_mono le.rd hs), h1⟩, fun x H' ⟨e1, e2⟩ => ?_⟩
      subst e1
      have := e2 vs (sqt_mono g2.ex (sqt_mono le.rd hs))
      rw [h1] at this; cases this
      exact .same g2 (dp_mono le.rd _ _ h2))
/-- the owned list of a name, that stays as it is -/
theorem ji_own {tg : Expr} {p : Addr} {ds : List PyData} (he : JE X e G S (.o p) S1) (hp : S1 p = some (.lst ds)) : JI X tg e G S ds (fun S' => S' p = some (.lst ds)) S1 := fun B σ H g sl =>
  wI_of (pi_list pe_w) (wE_mono (he B σ H g sl) fun v H1 ⟨B1, w1, g1, r1⟩ => by
    have ev : v = .ref p := r1
    subst ev
    obtain ⟨hb, vs, h1, h2⟩ := g1.own p _ hp
    refine ⟨p, rfl, ⟨vs, .inl (.inl h1)⟩, B1, w1, g1, fun B2 S2 H2 le ho g2 => ?_⟩
    obtain ⟨_, us, k1, k2⟩ := g2.own p _ ho
    refine ⟨fun i d hd => ?_, fun i hi => ⟨us, .inl (.inl k1), by rw [dpAll_len k2]; exact hi⟩⟩
    obtain ⟨u, h3, h4⟩ := dpAll_get k2 hd
    refine ⟨⟨us, u, .inl (.inl k1), h3⟩, fun x H' ⟨e1, e2⟩ => ?_⟩
    subst e1
    have := e2 us (.inl (.inl k1))
    rw [h3] at this; cases this
    exact .same g2 h4)
def rangeD (lo : Int) (n : Nat) : List PyData := (List.range n).map fun (i : Nat) => .int (lo + (i : Int))
theorem rangeD_get {lo : Int} {n i : Nat} {d : PyData} (h : (rangeD lo n)[i]? = some d) : i < n ∧ d = .int (lo + (i : Int)) := by
  unfold rangeD at h
  rw [List.getElem?_map] at h
  by_cases hi : i < n
  · rw [List.getElem?_range hi] at h
    exact ⟨hi, (Option.some.inj h).symm⟩
  · rw [List.getElem?_eq_none (by rw [List.length_range]; omega)] at h
    cases h
theorem rangeD_len (lo : Int) (n : Nat) : (rangeD lo n).length = n := by unfold rangeD; rw [List.length_map, List.length_range]
theorem ji_range1 {tg : Expr} {es : List Expr} {n : Int} (hp : PI X tg e (iRng1 (wA X es))) (ha : JA X es G S [.d (.int n)] S1) (h1 : -(2 ^ 62) ≤ n) (h2 : n < 2 ^ 62) : JI X tg e G S (rangeD 0 n.toNat) (fun _ => True) S1 := fun B σ H g sl =>
  wI_of hp (wA_mono (ha B σ H g sl) fun vs H1 ⟨B1, w1, g1, r1⟩ => by
    cases r1 with
    | cons r1 rr =>
      cases rr
      cases r1
      refine ⟨n, rfl, h1, h2, B1, w1, g1, fun B2 S2 H2 le ho g2 => ⟨fun i d hd => ?_, fun i hi => by rw [rangeD_len] at hi; exact hi⟩⟩
      obtain ⟨hi, rfl⟩ := rangeD_get hd
      refine ⟨hi, fun x H' ⟨e1, e2⟩ => ?_⟩
      subst e1 e2
      exact .same g2 (.int _))

/-! ### for -/
theorem js_for1 {tg iter : Expr} {ds : List PyData} {hold : Sto → Prop} (Pv : Nat → Gm → Sto → Prop) (hp : PassesOwn (model X.prog X.w) X.A X.env X.xe) (hc : X.calm = true) (hi : JI X tg iter G S ds hold S1) (h0 : Pv 0 G S1) (hh : ∀ i G' S', Pv i G' S' → hold S')
    (hs : ∀ (i : Nat) d G' S', ds[i]? = some d → Pv i G' S' → ∃ js G2, JG X tg S' (.d d) js G' G2 ∧ JS X body G2 S' { D with nx := Pv (i + 1), ct := Pv (i + 1), bk := D.nx }) (hd : ∀ G' S', Pv ds.length G' S' → D.nx G' S')
    (hf : ∀ x, foldedSetIterable iter X.env x = pure x := by intro _; rfl) : JS1 X (.For tg iter body [] pos) G S D := fun B σ H g sl => by
  refine wS_of (ps_for hp hc pi_w pg_w pss_w hf) (wI_mono (hi B σ H g sl) fun J H1 ⟨B1, w1, g1, yl⟩ => ?_)
  refine ⟨fun i m σ' H' => m = ds.length - i ∧ i ≤ ds.length ∧ ∃ B' G' S', Leb B1 B' ∧ Gw B S H B' S' H' ∧ Good (wd X) B' S' H' ∧ Sl X.K B' σ' G' ∧ Pv i G' S', ⟨ds.length, by simp, Nat.zero_le _, B1, G, S1, Leb.refl _, w1, g1, sl.mono w1.b, h0⟩, ?_⟩
  rintro i m σ' H' ⟨rfl, hle, B', G', S', le, w', g', sl', p⟩
  obtain ⟨y1, y2⟩ := yl B' S' H' le (hh i G' S' p) g'
  by_cases hlt : i < ds.length
  · have hd' := List.getElem?_eq_getElem hlt
    obtain ⟨go, yv⟩ := y1 i _ hd'
    obtain ⟨js, G2, hg2, hb⟩ := hs i _ G' S' hd' p
    refine .inr ⟨go, fun σ2 H2 => ∃ B2 G2 S2, Leb B1 B2 ∧ Gw B S H B2 S2 H2 ∧ Good (wd X) B2 S2 H2 ∧ Sl X.K B2 σ2 G2 ∧ Pv (i + 1) G2 S2, fun σ2 H2 q => ⟨ds.length - (i + 1), by omega, rfl, hlt, q⟩, fun x H2 yy => ?_⟩
    obtain ⟨B2, w2, g2, r2⟩ := yv x H2 yy
    refine hg2 B2 σ' H2 x g2 (sl'.mono w2.b) r2 _ fun σ3 sl3 _ => ?_
    exact wSs_mono (hb B2 σ3 H2 g2 sl3) (fun σ4 H4 ⟨B4, G4, S4, w4, g4, sl4, p4⟩ => ⟨B4, G4, S4, (le.trans w2.b).trans w4.b, (w'.trans g' w2).trans g2 w4, g4, sl4, p4⟩) (fun _ _ q => rtQ.comp (w'.trans g' w2) g2 (fun _ _ z => z) q) (fun _ _ q => stQ.comp (w'.trans g' w2) g2 (fun _ _ z => z) q)
      (fun σ4 H4 ⟨B4, G4, S4, w4, g4, sl4, p4⟩ => ⟨B4, G4, S4, (le.trans w2.b).trans w4.b, (w'.trans g' w2).trans g2 w4, g4, sl4, p4⟩)
  · have e : i = ds.length := by omega
    subst e
    exact .inl ⟨y2 _ (Nat.le_refl _), B', G', S', w', g', sl', hd G' S' p⟩
theorem js_for {tg iter : Expr} {ds : List PyData} {hold : Sto → Prop} (Pv : Nat → Gm → Sto → Prop) (hp : PassesOwn (model X.prog X.w) X.A X.env X.xe) (hc : X.calm = true) (hi : JI X tg iter G S ds hold S1) (h0 : Pv 0 G S1) (hh : ∀ i G' S', Pv i G' S' → hold S')
    (hs : ∀ (i : Nat) d G' S', ds[i]? = some d → Pv i G' S' → ∃ js G2, JG X tg S' (.d d) js G' G2 ∧ JS X body G2 S' { D with nx := Pv (i + 1), ct := Pv (i + 1), bk := fun G' S' => JS X rest G' S' D }) (hd : ∀ G' S', Pv ds.length G' S' → JS X rest G' S' D)
    (hf : ∀ x, foldedSetIterable iter X.env x = pure x := by intro _; rfl) : JS X (.For tg iter body [] pos :: rest) G S D := js_cons (js_for1 Pv hp hc hi h0 hh hs hd hf)
end

/-! ### comprehensions -/
section
variable (X : Cx) (scope : Scope)
def bE (e : Expr) : TE := fun σ H' Q => ∀ s H C cl fp, wE (X.blk s H scope (compEnvC scope cl C X.env) fp) e σ H' Q
def bT (e : Expr) : TT := fun σ H' Q => ∀ s H C cl fp, wT (X.blk s H scope (compEnvC scope cl C X.env) fp) e σ H' Q
def bG (tg : Expr) : TG := fun v σ H' Q => ∀ s H C cl fp, wG (X.blk s H scope (compEnvC scope cl C X.env) fp) tg v σ H' Q
end
theorem be_ok {X : Cx} {scope : Scope} {e : Expr} (s : Shared) (H : Hp) (C : Addr) (cl : List (Str × Addr)) (fp : List Addr) : PE (X.blk s H scope (compEnvC scope cl C X.env) fp) e (bE X scope e) := ⟨fun pins s' _ _ _ I h => h s H C cl fp pins s' I⟩
theorem bt_ok {X : Cx} {scope : Scope} {e : Expr} (s : Shared) (H : Hp) (C : Addr) (cl : List (Str × Addr)) (fp : List Addr) : PT (X.blk s H scope (compEnvC scope cl C X.env) fp) e (bT X scope e) := ⟨fun pins s' _ _ _ I h => h s H C cl fp pins s' I⟩
theorem bg_ok {X : Cx} {scope : Scope} {e : Expr} (s : Shared) (H : Hp) (C : Addr) (cl : List (Str × Addr)) (fp : List Addr) : PG (X.blk s H scope (compEnvC scope cl C X.env) fp) e (bG X scope e) := ⟨fun pins s' _ _ v u _ I r h => h s H C cl fp pins s' u I r⟩
/-- a comprehension's turns, from the i-th on, with what is made so far -/
def LcTurn (X : Cx) (scope : Scope) (elt : Expr) (ifs : List Expr) (G2 : Gm) (S : Sto) (acc : List PyData) (P : List PyData → Sto → Prop) : Prop :=
  match ifs with
  | [] => ∃ y S', (∀ s H C cl fp, JE (X.blk s H scope (compEnvC scope cl C X.env) fp) elt G2 S (.d y) S') ∧ P (acc ++ [y]) S'
  | c :: _ => ∃ k S1, (∀ s H C cl fp, JT (X.blk s H scope (compEnvC scope cl C X.env) fp) c G2 S k S1) ∧
      (k = true → ∃ y S', (∀ s H C cl fp, JE (X.blk s H scope (compEnvC scope cl C X.env) fp) elt G2 S1 (.d y) S') ∧ P (acc ++ [y]) S') ∧ (k = false → P acc S1)
structure LcOk (X : Cx) (scope : Scope) (tg elt : Expr) (ifs : List Expr) (vs : List Nat) (G : Gm) (ds : List PyData) (Pv : Nat → List PyData → Sto → Prop) : Prop where
  one : ifs.length ≤ 1
  turn : ∀ (i : Nat) d acc S, ds[i]? = some d → Pv i acc S → ∃ js G2, (∀ j ∈ js, j ∈ vs) ∧ (∀ s H C cl fp, JG (X.blk s H scope (compEnvC scope cl C X.env) fp) tg S (.d d) js G G2) ∧ LcTurn X scope elt ifs G2 S acc (Pv (i + 1))
  size : ∀ i acc S, i ≤ ds.length → Pv i acc S → acc.length ≤ i
def bTs (X : Cx) (scope : Scope) : List Expr → TT
  | [] => tYes
  | c :: _ => bT X scope c
theorem bts_ok {X : Cx} {scope : Scope} {ifs : List Expr} (h1 : ifs.length ≤ 1) (s : Shared) (H : Hp) (C : Addr) (cl : List (Str × Addr)) (fp : List Addr) : PTs (X.blk s H scope (compEnvC scope cl C X.env) fp) ifs (bTs X scope ifs) := by
  match ifs, h1 with
  | [], _ => exact pts_nil
  | [c], _ => exact pts_one (bt_ok s H C cl fp)
/-- appended within -/
theorem Good.app {W : Wd} {B H : Hp} {S : Sto} {D : Addr} {acc : List PyData} {v : V} {d : PyData} (g : Good W B S H) (h : S D = some (.lst acc)) (r : Dq W.K B v d) : ∃ vs, H D = some (.lst vs) ∧ vs.length = acc.length ∧ Good W B (sset S D (.lst (acc ++ [d]))) (upd H D (.lst (vs ++ [v]))) ∧ Gw B S H B (sset S D (.lst (acc ++ [d]))) (upd H D (.lst (vs ++ [v]))) := by
  obtain ⟨hb, vs, h1, h2⟩ := g.own D _ h
  obtain ⟨g', w'⟩ := g.wrote (o := .lst (vs ++ [v])) (m' := .lst (acc ++ [d])) h ⟨_, upd_same, dpAll_append h2 (.cons r .nil)⟩
  exact ⟨vs, h1, dpAll_len h2, g', w'⟩
/-- a step that does not know of D leaves it -/
theorem frame {W : Wd} {B B' H H' : Hp} {S S' : Sto} {D : Addr} {m : MO} (g : Good W B (sset S D m) H) (hD : S D = none) (w : Gw B S H B' S' H') (g' : Good W B' S' H') : S' D = none ∧ Good W B' (sset S' D m) H' ∧ Gw B (sset S D m) H B' (sset S' D m) H' := by
  have hd := g.own D m sset_same
  have hn : H D ≠ none := hd.2.ne
  obtain ⟨b', s'⟩ := w.o D hn hd.1 hD
  have hH : H' D = H D := by
    cases e : H D with
    | none => exact absurd e hn
    | some o => exact w.k D o e hD
  refine ⟨s', ⟨g'.ex, fun a n e => ?_⟩, ⟨w.b, fun a o e hs => ?_, fun a e hb hs => ?_⟩⟩
  · by_cases ea : a = D
    · subst ea
      rw [sset_same] at e; cases e
      exact ⟨b', hd.2.mono w.b hH⟩
    · rw [sset_ne ea] at e
      exact g'.own a n e
  · have ne : a ≠ D := fun z => by rw [z, sset_same] at hs; cases hs
    rw [sset_ne ne] at hs
    exact w.k a o e hs
  · have ne : a ≠ D := fun z => by rw [z, sset_same] at hs; cases hs
    rw [sset_ne ne] at hs ⊢
    exact w.o a e hb hs
theorem lc_read {X : Cx} {scope : Scope} {tg elt : Expr} {ifs : List Expr} {vs : List Nat} {G : Gm} {ds : List PyData} {Pv : Nat → List PyData → Sto → Prop} {hold : Sto → Prop} (L : LcOk X scope tg elt ifs vs G ds Pv) (hh : ∀ i acc S, Pv i acc S → hold S) (hz : ds.length < sizeLine) {σ : L2.St} {B H B1 H1 : Hp} {S S1 : Sto} {J : It} {Q : VK}
    (g1 : Good (wd X) B1 S1 H1) (w1 : Gw B S H B1 S1 H1) (sl : Sl X.K B1 (wipe σ vs) G) (h0 : Pv 0 [] S1) (yl : Yl (wd X) J B1 hold ds) (hq : ∀ v H' acc S', Pv ds.length acc S' → NQ (wd X) B S H (.lst acc) S' v H' → Q v H') :
    ∀ D, H1 D = none → ∃ W : Nat → Nat → Hp → Prop, (∃ m, W 0 m (upd H1 D (.lst []))) ∧ ∀ i m H, W i m H →
      (J.stop i H ∧ Q (.ref D) H) ∨ (J.go i H ∧ ∃ Nx : Hp → Prop, (∀ H', Nx H' → ∃ m', m' < m ∧ W (i + 1) m' H') ∧ ∀ x H', J.yld i H x H' → bG X scope tg x (wipe σ vs) H' fun σ2 H2 => wipe σ2 vs = wipe σ vs ∧ bTs X scope ifs σ2 H2 fun b H3 =>
        if b = true then bE X scope elt σ2 H3 fun y H4 => ∃ acc, H4 D = some (.lst acc) ∧ acc.length < sizeLine ∧ Nx (upd H4 D (.lst (acc ++ [y]))) else Nx H3) := by
  intro D hD
  -- the state of a turn: the store of the turns, the new list beside it
  refine ⟨fun i m H' => m = ds.length - i ∧ i ≤ ds.length ∧ ∃ B' S' acc, Leb B1 B' ∧ S' D = none ∧ Gw B S H B' (sset S' D (.lst acc)) H' ∧ Good (wd X) B' (sset S' D (.lst acc)) H' ∧ Pv i acc S', ⟨ds.length, by simp, Nat.zero_le _, ?_⟩, ?_⟩
  · obtain ⟨g2, w2⟩ := g1.owned (o := .lst []) (m := .lst []) hD ⟨[], upd_same, .nil⟩
    exact ⟨B1, S1, [], Leb.refl _, g1.snone hD, w1.trans g1 w2, g2, h0⟩
  rintro i m H' ⟨rfl, hle, B', S', acc, le, sD, w', g', p⟩
  have gS : Good (wd X) B' S' H' := g'.drop (SubS.set sD)
  obtain ⟨y1, y2⟩ := yl B' S' H' le (hh i acc S' p) gS
  by_cases hlt : i < ds.length
  · have hd' := List.getElem?_eq_getElem hlt
    obtain ⟨go, yv⟩ := y1 i _ hd'
    obtain ⟨js, G2, hjs, hg2, hturn⟩ := L.turn i _ acc S' hd' p
    let NX : Hp → Prop := fun H2 => ∃ B2 S2 acc2, Leb B1 B2 ∧ S2 D = none ∧ Gw B S H B2 (sset S2 D (.lst acc2)) H2 ∧ Good (wd X) B2 (sset S2 D (.lst acc2)) H2 ∧ Pv (i + 1) acc2 S2
    refine .inr ⟨go, NX, fun H2 q => ⟨ds.length - (i + 1), by omega, rfl, hlt, q⟩, fun x H2 yy => ?_⟩
    obtain ⟨B2, w2, g2, r2⟩ := yv x H2 yy
    obtain ⟨sD2, gf2, wf2⟩ := frame g' sD w2 g2
    have hsize := L.size i acc S' hle p
    intro s0 H0 C cl fp
    refine hg2 s0 H0 C cl fp B2 (wipe σ vs) H2 x g2 (sl.mono (le.trans w2.b)) r2 _ fun σ3 sl3 ch => ⟨ch.wiped hjs, ?_⟩
    -- the element's end
    have fin : ∀ {B3 H3 : Hp} {S3 : Sto} (k3 : S3 D = none) (le3 : Leb B1 B3) (wf3 : Gw B S H B3 (sset S3 D (.lst acc)) H3) (gf3 : Good (wd X) B3 (sset S3 D (.lst acc)) H3) (sl4 : Sl X.K B3 σ3 G2), (∃ y S4, (∀ s H C cl fp, JE (X.blk s H scope (compEnvC scope cl C X.env) fp) elt G2 S3 (.d y) S4) ∧ Pv (i + 1) (acc ++ [y]) S4) →
        bE X scope elt σ3 H3 fun y H4 => ∃ acc, H4 D = some (.lst acc) ∧ acc.length < sizeLine ∧ NX (upd H4 D (.lst (acc ++ [y]))) := by
      intro B3 H3 S3 k3 le3 wf3 gf3 sl4 ⟨y, S4, he, p4⟩ s0 H0 C cl fp
      refine wE_mono (he s0 H0 C cl fp B3 σ3 H3 (gf3.drop (SubS.set k3)) sl4) fun v H4 ⟨B4, w4, g4, r4⟩ => ?_
      obtain ⟨sD4, gf4, wf4⟩ := frame gf3 k3 w4 g4
      obtain ⟨us, e1, e2, g5, w5⟩ := gf4.app sset_same r4
      refine ⟨us, e1, by rw [e2]; omega, B4, S4, acc ++ [y], le3.trans w4.b, sD4, ?_, ?_, p4⟩
      · rw [sset_sset] at w5
        exact (wf3.trans gf3 wf4).trans gf4 w5
      · rw [sset_sset] at g5; exact g5
    have one := L.one
    match ifs, one, hturn with
    | [], _, hturn =>
      refine iteT (B := NX H2) ?_
      exact fin sD2 (le.trans w2.b) (w'.trans g' wf2) gf2 sl3 hturn
    | c :: _, _, hturn =>
      obtain ⟨k, S5, hk, hk1, hk0⟩ := hturn
      intro s0 H0 C cl fp
      refine wT_mono (hk s0 H0 C cl fp B2 σ3 H2 g2 sl3) fun b H3 ⟨eb, B3, w3, g3⟩ => ?_
      subst eb
      obtain ⟨sD3, gf3, wf3⟩ := frame gf2 sD2 w3 g3
      cases b with
      | true => exact iteT (fin sD3 ((le.trans w2.b).trans w3.b) ((w'.trans g' wf2).trans gf2 wf3) gf3 (sl3.mono w3.b) (hk1 rfl))
      | false => exact iteF ⟨B3, S5, acc, (le.trans w2.b).trans w3.b, sD3, (w'.trans g' wf2).trans gf2 wf3, gf3, hk0 rfl⟩
  · have e : i = ds.length := by omega
    subst e
    exact .inl ⟨y2 _ (Nat.le_refl _), hq _ _ acc S' p ⟨B', D, rfl, sD, w', g'⟩⟩
section
variable {X : Cx} {G : Gm} {S S1 S2 : Sto} {pos : Pos} {D : DE} {rest : List Stmt}
/-- a comprehension as a value: a new list -/
theorem jn_lc {elt tg iter : Expr} {ifs : List Expr} {scope : Scope} {own : List (Str × Nat)} {ds dsf : List PyData} {hold : Sto → Prop} (Pv : Nat → List PyData → Sto → Prop) (hc : X.calm = true) (hN : X.N.Nodup) (ok : BlkOk X.N X.env.scope scope own) (hG : ∀ i ∈ own.map (·.2), G[i]? = some none) (hi : JI X tg iter G S ds hold S1)
    (L : LcOk X scope tg elt ifs (own.map (·.2)) G ds Pv) (hh : ∀ i acc S, Pv i acc S → hold S) (h0 : Pv 0 [] S1) (he : ∀ acc S', Pv ds.length acc S' → acc = dsf ∧ S' = S2) (hz : ds.length < sizeLine) (hs : ∀ x, foldedSetIterable iter X.env x = pure x := by intro _; rfl) :
    JN X (.ListComp elt [⟨tg, iter, ifs, 0⟩] scope pos) G S (.lst dsf) S2 := fun B σ H g sl =>
  wE_of (pe_lc (own := own) hc hN pi_w ok bg_ok (bts_ok L.one) be_ok hs) (wI_mono (hi B σ H g sl) fun J H1 ⟨B1, w1, g1, yl⟩ => lc_read L hh hz g1 w1 ((sl.mono w1.b).wipe _ hG) h0 yl fun v H' acc S' p q => by
    obtain ⟨e1, e2⟩ := he acc S' p
    subst e1 e2
    exact q)
/-- x = [..], where the store swaps -/
theorem js_setLc {i : Nat} {y : Str} {py spos : Pos} {elt tg iter : Expr} {ifs : List Expr} {scope : Scope} {own : List (Str × Nat)} {ds dsf : List PyData} {hold : Sto → Prop} (Pv : Nat → List PyData → Sto → Prop) (hc : X.calm = true) (hN : X.N.Nodup) (hy : X.N[i]? = some y) (hyl : X.env.scope.names.lookup y = some .local)
    (hsw : swapsWith (.ListComp elt [⟨tg, iter, ifs, 0⟩] scope pos) (some (.Name y py)) spos.line X.env = pure true) (ok : BlkOk X.N X.env.scope scope own) (hG : ∀ i ∈ own.map (·.2), G[i]? = some none) (hi : JI X tg iter G S ds hold S1)
    (L : LcOk X scope tg elt ifs (own.map (·.2)) G ds Pv) (hh : ∀ i acc S, Pv i acc S → hold S) (h0 : Pv 0 [] S1) (he : ∀ acc S', Pv ds.length acc S' → acc = dsf ∧ S' = S2) (hz : ds.length < sizeLine) (h : ∀ p, S2 p = none → JS X rest (G.set i (some (.o p))) (sset S2 p (.lst dsf)) D) (hs : ∀ x, foldedSetIterable iter X.env x = pure x := by intro _; rfl) :
    JS X (.Assign [.Name y py] (.ListComp elt [⟨tg, iter, ifs, 0⟩] scope pos) spos :: rest) G S D := js_cons fun B σ H g sl =>
  wS_of (ps_setLc (own := own) hc hN hy hyl hsw pi_w ok bg_ok (bts_ok L.one) be_ok hs) (wI_mono (hi B σ H g sl) fun J H1 ⟨B1, w1, g1, yl⟩ => lc_read (Q := fun v H' => gName i v σ H' (toE (wd X) B S H { D with nx := fun G' S' => JS X rest G' S' D }).nx) L hh hz g1 w1 ((sl.mono w1.b).wipe _ hG) h0 yl fun v H' acc S' p q => by
    obtain ⟨e1, e2⟩ := he acc S' p
    have q' : NQ (wd X) B S H (.lst dsf) S2 v H' := by rw [← e1, ← e2]; exact q
    obtain ⟨B2, p2, ev, hp, w2, g2⟩ := q'
    exact ⟨B2, _, _, w2, g2, (sl.mono w2.b).set i (show Rw X.K B2 v (.o p2) from ev), h p2 hp⟩)
end

/-! ### defs -/
section
variable {P : Program} {w : World} {K : PySem.W.Frag} {mg : Str → Option Value} {base : Heap}
/-- the names at a def's entry -/
def G0 (N : List Str) (ds : List Wv) : Gm := ds.map some ++ List.replicate (N.length - ds.length) none
theorem sl_start {B : Hp} {N : List Str} {vs : List V} {ds : List Wv} (r : RwAll K B vs ds) : Sl K B (L2.start N vs) (G0 N ds) := by
  have hl := r.len
  refine ⟨by unfold L2.start G0; simp [hl], fun i w q => ?_⟩
  unfold G0 at q
  unfold L2.start
  have key : ∀ {vs : List V} {ds : List Wv} (i : Nat), RwAll K B vs ds → ∀ (n m : Nat), (ds.map some ++ List.replicate n none)[i]? = some (some w) → ∃ v, (vs.map some ++ List.replicate m none)[i]? = some (some v) ∧ Rw K B v w := by
    intro vs ds i r
    induction r generalizing i with
    | nil =>
      intro n m q
      simp only [List.map_nil, List.nil_append] at q
      have := List.mem_of_getElem? q
      rw [List.mem_replicate] at this
      exact nomatch this.2
    | cons h t ih =>
      intro n m q
      cases i with
      | zero =>
        simp only [List.map_cons, List.cons_append, List.getElem?_cons_zero, Option.some.injEq] at q ⊢
        subst q
        exact ⟨_, rfl, h⟩
      | succ i =>
        simp only [List.map_cons, List.cons_append, List.getElem?_cons_succ] at q ⊢
        exact ih i n m q
  exact key i r _ _ q
/-- a def keeps a promise upon data -/
theorem fn_j {x qual : Str} {st : Stmt} {f : Addr} {fd : FuncData} {N ps : List Str} {k : Nat} {rel : Rel} (F : Fun K x qual st f fd) (Sc : FnScope N ps (defScope st)) (hl : ∀ ds S r S', rel ds S r S' → ds.length = ps.length)
    (hb : ∀ (cdv : Value) (A : Around) (outer : List Env) (s : Shared) (H : Hp) (E : XK), Room k (A.deeper (PyProof.Rows.envOfC qual (defScope st) s.heap.objs.size f cdv)) → ∀ ds S r S', rel ds S r S' →
      JS (cxOf CX0 P w K mg base N qual (defScope st) f cdv A outer s H E).nox (defBody st) (G0 N ds) S { nx := fun _ S2 => WLe (.d .none) r ∧ SubS S' S2, rt := fun r' S2 => WLe r' r ∧ SubS S' S2 }) : FnOk P w K mg base CX0 (k + 1) f fd ps (spJ ⟨P, w, K⟩ rel) := by
  refine F.ok Sc (fun vs H Q E ⟨B, S, ds, r, S', g, rv, hr, q⟩ => ?_) (fun cdv A outer s H vs Q E hr ⟨B, S, ds, r, S', g, rv, hrel, q⟩ => ?_)
  · rw [rv.len]; exact hl _ _ _ _ hr
  · refine ⟨_, pss_w, ?_⟩
    refine wSs_mono (hb cdv A outer s H E hr ds S r S' hrel B _ H g (sl_start rv)) (fun σ' H' ⟨B', G', S2, w', g', sl', e, sub⟩ => ?_) (fun v H' ⟨r', S2, ⟨B', w', g', rv'⟩, e, sub⟩ => ?_) (fun _ _ ⟨_, _, _, _, _, _, z⟩ => z.elim) (fun _ _ ⟨_, _, _, _, _, _, z⟩ => z.elim)
    · exact q _ _ ⟨B', w'.drop sub, g'.drop sub, Rw.le (show Rw K B' .non (.d .none) from .non) e⟩
    · exact q _ _ ⟨B', w'.drop sub, g'.drop sub, rv'.le e⟩
/-- a def that hands back a new owned object -/
theorem fn_n {x qual : Str} {st : Stmt} {f : Addr} {fd : FuncData} {N ps : List Str} {k : Nat} {rel : List Wv → Sto → MO → Sto → Prop} (F : Fun K x qual st f fd) (Sc : FnScope N ps (defScope st)) (hl : ∀ ds S r S', rel ds S r S' → ds.length = ps.length)
    (hb : ∀ (cdv : Value) (A : Around) (outer : List Env) (s : Shared) (H : Hp) (E : XK), Room k (A.deeper (PyProof.Rows.envOfC qual (defScope st) s.heap.objs.size f cdv)) → ∀ ds S m S', rel ds S m S' →
      JS (cxOf CX0 P w K mg base N qual (defScope st) f cdv A outer s H E).nox (defBody st) (G0 N ds) S { nx := fun _ _ => False, rt := fun r' S2 => ∃ p, r' = .o p ∧ S' p = none ∧ SubS (sset S' p m) S2 }) : FnOk P w K mg base CX0 (k + 1) f fd ps (spN ⟨P, w, K⟩ rel) := by
  refine F.ok Sc (fun vs H Q E ⟨B, S, ds, r, S', g, rv, hr, q⟩ => ?_) (fun cdv A outer s H vs Q E hr ⟨B, S, ds, r, S', g, rv, hrel, q⟩ => ?_)
  · rw [rv.len]; exact hl _ _ _ _ hr
  · refine ⟨_, pss_w, ?_⟩
    refine wSs_mono (hb cdv A outer s H E hr ds S r S' hrel B _ H g (sl_start rv)) (fun σ' H' ⟨_, _, _, _, _, _, z⟩ => z.elim) (fun v H' ⟨r', S2, ⟨B', w', g', rv'⟩, p, e, hp, sub⟩ => ?_) (fun _ _ ⟨_, _, _, _, _, _, z⟩ => z.elim) (fun _ _ ⟨_, _, _, _, _, _, z⟩ => z.elim)
    subst e
    exact q _ _ ⟨B', p, rv', hp, w'.drop sub, g'.drop sub⟩
end
end J

-- JR1
set_option Elab.async false
set_option linter.all false
set_option maxRecDepth 100000
set_option maxHeartbeats 4000000
/-! Further rules by values: lists joined, compared with nothing, tuples turned round, places of a list rewritten, pairs of texts compared. -/
namespace J
open PySem PySem.Spec PyProof.Rows L2

section
variable {X : Cx}
/-! ### list + list -/
def rCatR : R2 := fun x y H Q => ∃ l b xs zs, x = .ref l ∧ y = .ref b ∧ Rd H l (.lst xs) ∧ Rd H b (.lst zs) ∧ xs.length + zs.length ≤ sizeLine ∧ ∀ p, H p = none → Q (.ref p) (upd H p (.lst (xs ++ zs)))
theorem op_catR : OpR X (binaryOp .Add) rCatR := by
  intro pins s σ H x y v u Q I rx ry h
  obtain ⟨l, b, xs, zs, rfl, rfl, hl, hb, hz, q⟩ := h
  cases rx
  cases ry
  obtain ⟨_, us, n, r1, e1⟩ := hl.ok I.hok
  obtain ⟨_, ws, m, r2, e2⟩ := hb.ok I.hok
  have k1 := r1.length
  have k2 := r2.length
  have hs : us.toArray.size + ws.toArray.size ≤ sizeLine := by
    rw [List.size_toArray, List.size_toArray]
    omega
  refine PySem.P.add_list e1 e2 ?_ hs
  rw [show us.toArray ++ ws.toArray = (us ++ ws).toArray by simp]
  exact ⟨.ref _, _, I.lnew (t' := s.toks) (r1.append r2) (by rw [List.length_append]; omega), rfl, q _ I.fresh⟩
/-! ### == and != where one side is empty -/
def rEqE (K : PySem.W.Frag) (neg : Bool) : R2 := fun x y H Q => ∃ p b xs, x = .ref p ∧ y = .ref b ∧ SqL K H p xs ∧ SqL K H b [] ∧ Q (.bl (if neg = true then !xs.isEmpty else xs.isEmpty)) H
theorem op_eqE (hu : X.A.units < cLine) : OpR X (compareOp .Eq) (rEqE X.K false) := by
  intro pins s σ H x y v u Q I rx ry h
  obtain ⟨p, b, xs, rfl, rfl, hp, hb, q⟩ := h
  cases rx
  cases ry
  obtain ⟨us, r1, p1, _⟩ := I.list hp
  obtain ⟨ws, r2, p2, _⟩ := I.list hb
  cases r2
  cases r1 with
  | nil =>
    refine SeqAt.eq_listAt (e := fun _ => true) p1.isList p2.isList rfl hu (fun j h1 _ => absurd h1 (Nat.not_lt_zero j)) ?_
    exact ⟨.bl true, H, I, rfl, q⟩
  | cons r t => exact SeqAt.eq_list_lengthsAt p1.isList p2.isList (by simp) hu ⟨.bl false, H, I, rfl, q⟩
theorem op_neE (hu : X.A.units < cLine) : OpR X (compareOp .NotEq) (rEqE X.K true) := by
  intro pins s σ H x y v u Q I rx ry h
  obtain ⟨p, b, xs, rfl, rfl, hp, hb, q⟩ := h
  cases rx
  cases ry
  obtain ⟨us, r1, p1, _⟩ := I.list hp
  obtain ⟨ws, r2, p2, _⟩ := I.list hb
  cases r2
  cases r1 with
  | nil =>
    have h0 := SeqAt.RcNeAt.lists (e := fun _ => true) p1.isList p2.isList rfl hu (fun j h1 _ => absurd h1 (Nat.not_lt_zero j))
    exact h0 X.prog X.w _ _ ⟨.bl false, H, I, rfl, q⟩
  | cons r t =>
    have h0 := SeqAt.RcNeAt.lists_lengths p1.isList p2.isList (by simp) hu
    exact h0 X.prog X.w _ _ ⟨.bl true, H, I, rfl, q⟩
/-- a tuple == () -/
def rEqU (K : PySem.W.Frag) : R2 := fun x y H Q => ∃ p b xs, x = .ref p ∧ y = .ref b ∧ SqT K H p xs ∧ SqT K H b [] ∧ Q (.bl xs.isEmpty) H
theorem op_eqU (hu : X.A.units < cLine) : OpR X (compareOp .Eq) (rEqU X.K) := by
  intro pins s σ H x y v u Q I rx ry h
  obtain ⟨p, b, xs, rfl, rfl, hp, hb, q⟩ := h
  cases rx
  cases ry
  obtain ⟨us, r1, p1, _⟩ := I.tuple hp
  obtain ⟨ws, r2, p2, _⟩ := I.tuple hb
  cases r2
  refine SeqAt.eq_tupleAt (e := fun _ => true) (show s.heap.IsTuple _ us.toArray from p1) (show s.heap.IsTuple _ ([] : List Value).toArray from p2) hu (fun j _ h2 => absurd h2 (Nat.not_lt_zero j)) ?_
  refine ⟨.bl xs.isEmpty, H, I, ?_, q⟩
  cases r1 <;> rfl
/-! ### pairs of texts: < -/
def pairLt (a b c d : Str) : Bool := if a = c then decide (b.cps.toList < d.cps.toList) else decide (a.cps.toList < c.cps.toList)
def rLtP (K : PySem.W.Frag) : R2 := fun x y H Q => ∃ p q a b c d, x = .ref p ∧ y = .ref q ∧ SqT K H p [.str a, .str b] ∧ SqT K H q [.str c, .str d] ∧ Q (.bl (pairLt a b c d)) H
theorem rcLt_str (A : Around) (s : Shared) (x y : Str) (t u : Tok) : SeqAt.RcLt A s (.str x t) (.str y u) (decide (x.cps.toList < y.cps.toList)) := fun prog w E Q h => lt_str h
theorem eqAt_str (A : Around) (s : Shared) (x y : Str) (t u : Tok) : SeqAt.EqAt A s (.str x t) (.str y u) (decide (x = y)) := fun prog w E Q h => wpAny_eqBool_str h
theorem op_ltP (hu : X.A.units < cLine) : OpR X (compareOp .Lt) (rLtP X.K) := by
  intro pins s σ H x y v u Q I rx ry h
  obtain ⟨p, q, a, b, c, d, rfl, rfl, hp, hq, k⟩ := h
  cases rx
  cases ry
  obtain ⟨us, r1, p1, _⟩ := I.tuple hp
  obtain ⟨ws, r2, p2, _⟩ := I.tuple hq
  obtain ⟨u1, u2, rfl, ⟨t1, e1⟩, ⟨t2, e2⟩⟩ := r1.two
  obtain ⟨w1, w2, rfl, ⟨t3, e3⟩, ⟨t4, e4⟩⟩ := r2.two
  subst e1 e2 e3 e4
  let e : Nat → Bool := fun j => if j = 0 then decide (a = c) else decide (b = d)
  let r : Nat → Bool := fun j => if j = 0 then decide (a.cps.toList < c.cps.toList) else decide (b.cps.toList < d.cps.toList)
  have hE : ∀ j (h1 : j < ([Value.str a t1, .str b t2] : List Value).toArray.size) (h2 : j < ([Value.str c t3, .str d t4] : List Value).toArray.size), SeqAt.EqAt X.A.in1 s ([Value.str a t1, .str b t2] : List Value).toArray[j] ([Value.str c t3, .str d t4] : List Value).toArray[j] (e j) := fun j h1 h2 => by
    match j, h1, h2 with
    | 0, _, _ => exact eqAt_str _ _ _ _ _ _
    | 1, _, _ => exact eqAt_str _ _ _ _ _ _
    | j + 2, h1, _ => exact absurd h1 (by simp)
  have hR : ∀ j (h1 : j < ([Value.str a t1, .str b t2] : List Value).toArray.size) (h2 : j < ([Value.str c t3, .str d t4] : List Value).toArray.size), e j = false → SeqAt.RcLt X.A.in1 s ([Value.str a t1, .str b t2] : List Value).toArray[j] ([Value.str c t3, .str d t4] : List Value).toArray[j] (r j) := fun j h1 h2 _ => by
    match j, h1, h2 with
    | 0, _, _ => exact rcLt_str _ _ _ _ _ _
    | 1, _, _ => exact rcLt_str _ _ _ _ _ _
    | j + 2, h1, _ => exact absurd h1 (by simp)
  have h0 := SeqAt.RcLt.tuples (show s.heap.IsTuple p ([Value.str a t1, .str b t2] : List Value).toArray from p1) (show s.heap.IsTuple q ([Value.str c t3, .str d t4] : List Value).toArray from p2) hu hE hR
  refine h0 X.prog X.w _ _ ⟨.bl (pairLt a b c d), H, I, ?_, k⟩
  show Value.bool _ = Value.bool _
  refine congrArg Value.bool ?_
  unfold pairLt
  show SeqAt.firstLt e r (decide (2 < 2)) (List.range (min 2 2)) = _
  rw [show List.range (min 2 2) = [0, 1] from rfl]
  by_cases h1 : a = c
  · rw [SeqAt.firstLt_yes (show e 0 = true from decide_eq_true h1), if_pos h1]
    by_cases h2 : b = d
    · rw [SeqAt.firstLt_yes (show e 1 = true from decide_eq_true h2)]
      subst h2
      have : ¬ b.cps.toList < b.cps.toList := List.lt_irrefl _
      rw [decide_eq_false this]
      rfl
    · rw [SeqAt.firstLt_no (show e 1 = false from decide_eq_false h2)] <;> rfl
  · rw [SeqAt.firstLt_no (show e 0 = false from decide_eq_false h1), if_neg h1]
    rfl
/-! ### xs[i] op= e: what stands there -/
def gGetL (K : PySem.W.Frag) : V → V → Hp → VK → Prop := fun o i H Q => ∃ p xs k v, o = .ref p ∧ i = .int k ∧ 0 ≤ k ∧ SqL K H p xs ∧ xs[k.toNat]? = some v ∧ Q v H
theorem get_list : PGet X (gGetL X.K) := by
  intro pins s σ H o i ov iv Q I ro ri h
  obtain ⟨p, xs, k, v, rfl, rfl, h0, hp, hv, q⟩ := h
  cases ro
  obtain ⟨t, rfl⟩ := ri
  obtain ⟨us, r1, p1, hz⟩ := I.list hp
  obtain ⟨u, e1, r2⟩ := r1.get hv
  have hlt := (List.getElem?_eq_some_iff.mp hv).1
  have hl := r1.length
  have hn := line63
  exact wpAny_getItem_list p1.isList h0 (by omega) (by simpa using e1) ⟨v, H, I, r2, q⟩
end
end J

-- JR2
set_option Elab.async false
set_option linter.all false
set_option maxRecDepth 100000
set_option maxHeartbeats 4000000
/-! Rules upon data: lists and tuples by operations, own lists, built-in functions. -/
namespace J
open PySem PySem.Spec PyProof.Rows L2

section
variable {X : Cx} {G G1 : Gm} {S S1 S2 S3 : Sto} {a b c e : Expr} {pos : Pos} {rest : List Stmt} {D : DE}
theorem IsL.rd {W : Wd} {B H : Hp} {S : Sto} {v : V} {w : Wv} {ds : List PyData} (h : IsL S w ds) (g : Good W B S H) (r : Rw W.K B v w) : ∃ a vs, v = .ref a ∧ Rd H a (.lst vs) ∧ DqAll W.K B vs ds := by
  cases h with
  | d => cases r with
    | lst hs ha => exact ⟨_, _, rfl, g.ex _ _ hs, ha⟩
  | @o a ds hs =>
    obtain ⟨hb, vs, h1, h2⟩ := g.own a _ hs
    exact ⟨a, vs, r, .inl h1, h2⟩
/-! ### operations that make a list -/
theorem jn_op {op : Operator} {r : R2} {x y : Wv} {m : MO} (ho : OpR X (binaryOp op) r) (ha : JE X a G S x S1) (hb : JE X b G S1 y S2) (hr : RN (wd X) r x y S2 m S3) : JN X (.BinOp a op b pos) G S m S3 := fun B σ H g sl =>
  wE_of (pe_op ho pe_w pe_w) (wE_mono (ha B σ H g sl) fun vx H1 ⟨B1, w1, g1, r1⟩ => wE_mono (hb B1 σ H1 g1 (sl.mono w1.b)) fun vy H2 ⟨B2, w2, g2, r2⟩ =>
    hr B2 H2 vx vy g2 (r1.mono w2.b) r2 _ fun v H3 q => NQ.comp w1 g1 (NQ.comp w2 g2 q))
theorem rn_cat {W : Wd} {x y : Wv} {ds es : List PyData} (h1 : IsL S x ds) (h2 : IsL S y es) (hz : ds.length + es.length ≤ sizeLine) : RN W rCatR x y S (.lst (ds ++ es)) S := fun B H vx vy g r1 r2 Q q => by
  obtain ⟨p1, v1, rfl, k1, e1⟩ := h1.rd g r1
  obtain ⟨p2, v2, rfl, k2, e2⟩ := h2.rd g r2
  exact ⟨_, _, _, _, rfl, rfl, k1, k2, by rw [dpAll_len e1, dpAll_len e2]; exact hz, fun p hp => q _ _ (NQ.new g hp ⟨_, upd_same, dpAll_append e1 e2⟩)⟩
theorem dpAll_nil {K : PySem.W.Frag} {B : Hp} {vs : List V} {ds : List PyData} (h : DqAll K B vs ds) : vs.isEmpty = ds.isEmpty := by cases h <;> rfl
theorem rj_eqE {W : Wd} {x : Wv} {ds : List PyData} {neg : Bool} (h1 : IsL S x ds) : RJ W (rEqE W.K neg) x (.d (.list [])) S (.d (.bool (if neg = true then !ds.isEmpty else ds.isEmpty))) S := fun B H vx vy g r1 r2 Q q => by
  obtain ⟨p1, v1, rfl, k1, e1⟩ := h1.to g r1
  obtain ⟨p2, v2, rfl, k2, e2⟩ := IsL.d.to g r2
  cases e2
  refine ⟨_, _, _, rfl, rfl, k1, k2, ?_⟩
  rw [dpAll_nil e1]
  exact q _ _ (.same g (.bl _))
theorem rj_eqU {W : Wd} {ds : List PyData} : RJ W (rEqU W.K) (.d (.tuple ds)) (.d (.tuple [])) S (.d (.bool ds.isEmpty)) S := fun B H vx vy g r1 r2 Q q => by
  obtain ⟨p1, v1, rfl, k1, e1⟩ := tup_to g r1
  obtain ⟨p2, v2, rfl, k2, e2⟩ := tup_to g r2
  cases e2
  refine ⟨_, _, _, rfl, rfl, k1, k2, ?_⟩
  rw [dpAll_nil e1]
  exact q _ _ (.same g (.bl _))
theorem rj_ltP {W : Wd} {s1 s2 s3 s4 : Str} : RJ W (rLtP W.K) (.d (.tuple [.str s1, .str s2])) (.d (.tuple [.str s3, .str s4])) S (.d (.bool (pairLt s1 s2 s3 s4))) S := fun B H vx vy g r1 r2 Q q => by
  obtain ⟨p1, v1, rfl, k1, e1⟩ := tup_to g r1
  obtain ⟨p2, v2, rfl, k2, e2⟩ := tup_to g r2
  have f1 : v1 = [.str s1, .str s2] := (FlatAll.cons (.str s1) (.cons (.str s2) .nil)).eq e1
  have f2 : v2 = [.str s3, .str s4] := (FlatAll.cons (.str s3) (.cons (.str s4) .nil)).eq e2
  subst f1 f2
  exact ⟨_, _, _, _, _, _, rfl, rfl, k1, k2, q _ _ (.same g (.bl _))⟩
theorem rj_catT {W : Wd} {ds es : List PyData} (hz : ds.length + es.length ≤ sizeLine) : RJ W (rCatA W.K) (.d (.tuple ds)) (.d (.tuple es)) S (.d (.tuple (ds ++ es))) S := fun B H vx vy g r1 r2 Q q => by
  obtain ⟨p1, v1, rfl, k1, e1⟩ := tup_to g r1
  obtain ⟨p2, v2, rfl, k2, e2⟩ := tup_to g r2
  refine ⟨_, _, _, _, rfl, rfl, k1, k2, by rw [dpAll_len e1, dpAll_len e2]; exact hz, fun z => ?_, fun _ z => ?_, fun _ _ p hp => q _ _ (.newT g hp (dpAll_append e1 e2))⟩
  · subst z; cases e1
    exact q _ _ (.same g r2)
  · subst z; cases e2
    rw [List.append_nil] at q
    exact q _ _ (.same g r1)

/-! ### methods of own lists -/
theorem je_append {p : Addr} {ds : List PyData} {d : PyData} {es : List Expr} (hp : PE X e (tBM X.K "list" rAppend (wE X a) (wA X es))) (ho : JE X a G S (.o p) S) (hs : ∃ ds0, S p = some (.lst ds0)) (ha : JA X es G S [.d d] S2) (h2 : S2 p = some (.lst ds)) (hz : ds.length < sizeLine) :
    JE X e G S (.d .none) (sset S2 p (.lst (ds ++ [d]))) := by
  obtain ⟨ds0, hs⟩ := hs
  refine je_bm hp ho ha (fun B H v g r => ?_) fun B H v vs g r rr Q q => ?_
  · cases (show v = .ref p from r)
    obtain ⟨hb, us, h1, h2⟩ := g.own p _ hs
    exact .inl ⟨rfl, us, .inl (.inl h1)⟩
  · cases (show v = .ref p from r)
    cases rr with
    | @cons y _ _ _ r1 rr =>
      cases rr
      obtain ⟨us, e1, e2, g', w'⟩ := g.app h2 r1
      exact ⟨p, us, y, rfl, rfl, e1, by omega, q _ _ ⟨B, w', g', .non⟩⟩
theorem dpAll_dropLast {K : PySem.W.Frag} {B : Hp} : ∀ {vs : List V} {ds : List PyData}, DqAll K B vs ds → DqAll K B vs.dropLast ds.dropLast
  | _, _, .nil => .nil
  | _, _, .cons _ .nil => .nil
  | _, _, .cons r (.cons r2 t) => .cons r (dpAll_dropLast (.cons r2 t))
theorem je_pop {p : Addr} {ds : List PyData} {d : PyData} (hp : PE X e (tBM0 X.K "list" rPop (wE X a))) (ho : JE X a G S (.o p) S) (h2 : S p = some (.lst (ds ++ [d]))) :
    JE X e G S (.d d) (sset S p (.lst ds)) := by
  refine je_bm0 hp ho (fun B H v g r => ?_) fun B H v g r Q q => ?_
  · cases (show v = .ref p from r)
    obtain ⟨hb, us, h1, h2⟩ := g.own p _ h2
    exact .inl ⟨rfl, us, .inl (.inl h1)⟩
  · cases (show v = .ref p from r)
    obtain ⟨hb, us, h1, k2⟩ := g.own p _ h2
    have hl := dpAll_len k2
    rw [List.length_append, List.length_singleton] at hl
    obtain ⟨u, e1, e2⟩ := dpAll_get k2 (i := ds.length) (d := d) (by simp)
    obtain ⟨g', w'⟩ := g.wrote (o := .lst us.dropLast) (m' := .lst ds) h2 ⟨_, upd_same, by have := dpAll_dropLast k2; rwa [List.dropLast_concat] at this⟩
    exact ⟨p, us, u, rfl, rfl, h1, by rw [hl, Nat.add_sub_cancel]; exact e1, q _ _ ⟨B, w', g', e2⟩⟩
def rExtR : V → List V → Hp → VK → Prop := fun x vs H Q => ∃ l b xs zs, x = .ref l ∧ vs = [.ref b] ∧ H l = some (.lst xs) ∧ Rd H b (.lst zs) ∧ xs.length + zs.length ≤ sizeLine ∧ Q .non (upd H l (.lst (xs ++ zs)))
theorem mt_extR : MtM X "list.extend" rExtR := by
  intro pins s σ H x vs v us Q I rx rv h
  obtain ⟨l, b, xs, zs, rfl, rfl, hH, hB, hz, q⟩ := h
  cases rx
  obtain ⟨u, rfl, ru⟩ := rv.one
  cases ru
  obtain ⟨z, its, n, r, hl, e⟩ := I.lstM hH
  obtain ⟨z2, its2, n2, r2, e2⟩ := hB.ok I.hok
  have hl2 := r2.length
  have hsz : its.toArray.size + its2.toArray.size ≤ sizeLine := by rw [List.size_toArray, List.size_toArray]; omega
  have hlong : ¬ (!its.toArray.isEmpty && Builtin.List.listTooLong (its.toArray.size + its2.toArray.size)) = true := by
    rw [notLongL hsz, Bool.and_false]
    exact Bool.false_ne_true
  refine PySem.call_meets PySem.F.slot_list_extend ⟨_, e, rfl⟩ PySem.F.entry_list_extend (PySem.F.args_list_extend_2 _ _)
    (AutoSeq1.list_extend_list_list_0 l its.toArray n b its2.toArray n2 hlong (by rw [List.size_toArray]; omega) (by omega)) ⟨e, e2, ?_⟩
  refine ⟨.non, _, I.lset (its' := its ++ its2) hH e (by simp) (r.append r2) ?_, rfl, q⟩
  rw [List.length_append]
  omega
theorem je_extend {p : Addr} {ds fs : List PyData} {es : List Expr} (hp : PE X e (tBM X.K "list" rExtR (wE X a) (wA X es))) (ho : JE X a G S (.o p) S) (hs : ∃ ds0, S p = some (.lst ds0)) (ha : JA X es G S [.d (.list fs)] S2) (h2 : S2 p = some (.lst ds)) (hz : ds.length + fs.length ≤ sizeLine) :
    JE X e G S (.d .none) (sset S2 p (.lst (ds ++ fs))) := by
  obtain ⟨ds0, hs⟩ := hs
  refine je_bm hp ho ha (fun B H v g r => ?_) fun B H v vs g r rr Q q => ?_
  · cases (show v = .ref p from r)
    obtain ⟨hb, us, h1, h2⟩ := g.own p _ hs
    exact .inl ⟨rfl, us, .inl (.inl h1)⟩
  · cases (show v = .ref p from r)
    cases rr with
    | @cons y _ _ _ r1 rr =>
      cases rr
      cases r1 with
      | @lst b zs _ h3 h4 =>
        obtain ⟨hb, us, h1, k2⟩ := g.own p _ h2
        obtain ⟨g', w'⟩ := g.wrote (o := .lst (us ++ zs)) (m' := .lst (ds ++ fs)) h2 ⟨_, upd_same, dpAll_append k2 h4⟩
        exact ⟨p, b, us, zs, rfl, rfl, h1, g.ex _ _ h3, by rw [dpAll_len k2, dpAll_len h4]; exact hz, q _ _ ⟨B, w', g', .non⟩⟩
/-! ### a place of an own list -/
theorem dpAll_set {K : PySem.W.Frag} {B : Hp} {v : V} {d : PyData} (r : Dq K B v d) : ∀ {vs : List V} {ds : List PyData} (j : Nat), DqAll K B vs ds → DqAll K B (vs.set j v) (ds.set j d)
  | _, _, _, .nil => .nil
  | _, _, 0, .cons _ t => .cons r t
  | _, _, j + 1, .cons h t => .cons h (dpAll_set r j t)
/-- xs[i] = e -/
theorem js_at {i : Expr} {p : Addr} {ds : List PyData} {k : Nat} {d : PyData} {tpos : Pos} (he : JE X e G S (.d d) S1) (ho : JE X a G S1 (.o p) S1) (hi : JE X i G S1 (.d (.int k)) S1) (hs : S1 p = some (.lst ds)) (hk : k < ds.length) (h : JS X rest G (sset S1 p (.lst (ds.set k d))) D)
    (hs1 : swapsWithSole [.Subscript a i tpos] e pos.line X.env = pure false := by rfl) (hw : swappedStores [.Subscript a i tpos] e X.env = pure none := by rfl)
    (h1 : (assignEach [.Subscript a i tpos] X.env).map (·.2) = [assign (.Subscript a i tpos) X.env] := by rfl)
    (ha : ∀ v, assign (.Subscript a i tpos) X.env v = (do
      let ov ← holding [v] (eval a X.env)
      let iv ← holding [v, ov] (eval i X.env)
      standAt tpos
      holding [v, ov, iv] (setItem ov iv v)
      release [v, ov, iv] []) := by intro _; rfl) : JS X (.Assign [.Subscript a i tpos] e pos :: rest) G S D := js_cons fun B σ H g sl =>
  wS_of (ps_asg pe_w (pg_sub pe_w pe_w set_list ha) hs1 hw h1) (wE_mono (he B σ H g sl) fun v H1 ⟨B1, w1, g1, r1⟩ => wE_mono (ho B1 σ H1 g1 (sl.mono w1.b)) fun o H2 ⟨B2, w2, g2, r2⟩ => wE_mono (hi B2 σ H2 g2 (sl.mono (w1.b.trans w2.b))) fun iv H3 ⟨B3, w3, g3, r3⟩ => by
    cases (show o = .ref p from r2)
    cases r3
    obtain ⟨hb, us, e1, e2⟩ := g3.own p _ hs
    have hl := dpAll_len e2
    obtain ⟨g', w'⟩ := g3.wrote (o := .lst (us.set k v)) (m' := .lst (ds.set k d)) hs ⟨_, upd_same, dpAll_set (dp_mono (w2.b.trans w3.b).rd _ _ r1) k e2⟩
    refine ⟨p, us, k, k, rfl, rfl, e1, ?_, B3, G, _, ((w1.trans g1 w2).trans g2 w3).trans g3 w', g', sl.mono ((w1.b.trans w2.b).trans w3.b), h⟩
    unfold ixN
    rw [if_pos (Int.natCast_nonneg k), if_pos (by rw [hl]; exact Int.ofNat_lt.mpr hk), Int.toNat_natCast])
/-- xs[k] += e, of ints -/
theorem js_augAt {i : Expr} {p : Addr} {ds : List PyData} {k : Nat} {x y : Int} {tpos : Pos} (ho : JE X a G S (.o p) S) (hi : JE X i G S (.d (.int k)) S) (he : JE X e G S (.d (.int y)) S) (hs : S p = some (.lst ds)) (hk : ds[k]? = some (.int x)) (h : JS X rest G (sset S p (.lst (ds.set k (.int (x + y))))) D)
    (ha : ∀ ov iv new, augStore i ov iv new = (do holding [new, ov, iv] (setItem ov iv new); release [new, ov, iv] []; pure .next) := by intros; rfl) :
    JS X (.AugAssign (.Subscript a i tpos) .Add e pos :: rest) G S D := js_cons fun B σ H g sl =>
  wS_of (ps_augS pe_w pe_w get_list pe_w ip_add set_list ha) (wE_mono (ho B σ H g sl) fun o H1 ⟨B1, w1, g1, r1⟩ => wE_mono (hi B1 σ H1 g1 (sl.mono w1.b)) fun iv H2 ⟨B2, w2, g2, r2⟩ => by
    cases (show o = .ref p from r1)
    cases r2
    obtain ⟨hb, us, e1, e2⟩ := g2.own p _ hs
    obtain ⟨u, e3, e4⟩ := dpAll_get e2 hk
    cases e4
    refine ⟨p, us, k, .int x, rfl, rfl, Int.natCast_nonneg k, .inl (.inl e1), by rw [Int.toNat_natCast]; exact e3, ?_⟩
    refine wE_mono (he B2 σ H2 g2 (sl.mono (w1.b.trans w2.b))) fun v H3 ⟨B3, w3, g3, r3⟩ => ?_
    cases r3
    refine ⟨x, y, rfl, rfl, ?_⟩
    obtain ⟨hb, us, e1, e2⟩ := g3.own p _ hs
    have hl := dpAll_len e2
    have hk' := (List.getElem?_eq_some_iff.mp hk).1
    obtain ⟨g', w'⟩ := g3.wrote (o := .lst (us.set k (.int (x + y)))) (m' := .lst (ds.set k (.int (x + y)))) hs ⟨_, upd_same, dpAll_set (.int _) k e2⟩
    refine ⟨p, us, k, k, rfl, rfl, e1, ?_, B3, G, _, ((w1.trans g1 w2).trans g2 w3).trans g3 w', g', sl.mono ((w1.b.trans w2.b).trans w3.b), h⟩
    unfold ixN
    rw [if_pos (Int.natCast_nonneg k), if_pos (by rw [hl]; exact Int.ofNat_lt.mpr hk'), Int.toNat_natCast])

/-! ### built-in functions -/
theorem je_ty {x : Str} {n : String} (hg : Gl X x) (hm : X.mg x = none) (hv : bootBuiltins x = some (.type n)) (hn : x ≠ "__name__" := by decide) (hd : (x == ("__debug__" : Str)) = false := by decide) : JE X (.Name x pos) G S (.v (.ty n)) S :=
  fun B σ H g sl => wE_of (pe_bltn (v := .ty n) hg hm hv rfl hn hd) (.same g rfl)
def tyD : PyData → String
  | .none => "NoneType"
  | .bool _ => "bool"
  | .int _ => "int"
  | .str _ => "str"
  | .list _ => "list"
  | .tuple _ => "tuple"
  | .dict _ => "dict"
theorem dq_ty {W : Wd} {B H : Hp} {v : V} {d : PyData} (g : Good W B S H) (r : Dq W.K B v d) : TyX W.K H v (.type (tyD d)) := by
  cases r with
  | non => exact .base .non
  | bl b => exact .base (.bl b)
  | int i => exact .base (.int i)
  | str x => exact .base (.str x)
  | lst h _ =>
    rcases g.ex _ _ h with z | ⟨o, z⟩
    · exact .base (.lst z)
    · exact .base (.frz z)
  | tup h _ =>
    rcases h with h | ⟨o, its, n, h1, h2, _⟩
    · rcases g.ex _ _ h with z | ⟨o, z⟩
      · exact .base (.tup z)
      · exact .fTuple z
    · exact .kTuple h1 h2
theorem cj_isi {W : Wd} {d : PyData} {n : String} {k : Bool} (h : kitB (tyD d) n = some k) : CJ W (rIsi W.K) [.d d, .v (.ty n)] S (.d (.bool k)) S := fun B H vs g r Q q => by
  cases r with
  | cons r1 rr =>
    cases rr with
    | cons r2 rr =>
      cases rr
      cases (show _ = V.ty n from r2)
      exact ⟨_, _, _, _, k, rfl, .ty n, dq_ty g r1, kit_ty h, q _ _ (.same g (.bl _))⟩
theorem cj_lenT {W : Wd} {ds : List PyData} : CJ W (fun xs H Q => ∃ x n, xs = [x] ∧ LenV W.K x H n ∧ Q (.int n) H) [.d (.tuple ds)] S (.d (.int ds.length)) S := fun B H vs g r Q q => by
  cases r with
  | cons r1 rr =>
    cases rr
    obtain ⟨a, us, rfl, k1, k2⟩ := tup_to g r1
    exact ⟨_, ds.length, rfl, .inr ⟨us, k1, (dpAll_len k2).symm⟩, q _ _ (.same g (.int _))⟩
theorem cj_lenL {W : Wd} {x : Wv} {ds : List PyData} (h : IsL S x ds) : CJ W (fun xs H Q => ∃ x n, xs = [x] ∧ LenV W.K x H n ∧ Q (.int n) H) [x] S (.d (.int ds.length)) S := fun B H vs g r Q q => by
  cases r with
  | cons r1 rr =>
    cases rr
    obtain ⟨a, us, rfl, k1, k2⟩ := h.to g r1
    exact ⟨_, ds.length, rfl, .inl ⟨us, k1, (dpAll_len k2).symm⟩, q _ _ (.same g (.int _))⟩
theorem cj_abs {W : Wd} {i : Int} : CJ W (fun xs H Q => ∃ i, xs = [.int i] ∧ Q (.int (if i < 0 then -i else i)) H) [.d (.int i)] S (.d (.int (if i < 0 then -i else i))) S := fun B H vs g r Q q => by
  cases r with
  | cons r1 rr =>
    cases rr
    cases r1
    exact ⟨i, rfl, q _ _ (.same g (.int _))⟩
theorem dpAll_bools {K : PySem.W.Frag} {B : Hp} : ∀ {vs : List V} {bs : List Bool}, DqAll K B vs (bs.map .bool) → vs = bs.map V.bl
  | _, [], .nil => rfl
  | _, b :: bs, .cons (.bl _) t => by rw [List.map_cons, dpAll_bools t]
theorem cj_all {W : Wd} {bs : List Bool} : CJ W (rAll W.K) [.d (.list (bs.map .bool))] S (.d (.bool (bs.all id))) S := fun B H vs g r Q q => by
  cases r with
  | cons r1 rr =>
    cases rr
    obtain ⟨a, us, rfl, k1, k2⟩ := IsL.d.to g r1
    rw [dpAll_bools k2] at k1
    exact ⟨a, bs, rfl, k1, q _ _ (.same g (.bl _))⟩
theorem cj_any {W : Wd} {bs : List Bool} : CJ W (rAny W.K) [.d (.list (bs.map .bool))] S (.d (.bool (bs.any id))) S := fun B H vs g r Q q => by
  cases r with
  | cons r1 rr =>
    cases rr
    obtain ⟨a, us, rfl, k1, k2⟩ := IsL.d.to g r1
    rw [dpAll_bools k2] at k1
    exact ⟨a, bs, rfl, k1, q _ _ (.same g (.bl _))⟩
theorem cj_tuple {W : Wd} {x : Wv} {ds : List PyData} (h : IsL S x ds) : CJ W (fun xs H Q => ∃ p ys, xs = [.ref p] ∧ ((SqL W.K H p ys ∧ ∀ l, H l = none → Q (.ref l) (upd H l (.tup ys))) ∨ (SqT W.K H p ys ∧ Q (.ref p) H))) [x] S (.d (.tuple ds)) S := fun B H vs g r Q q => by
  cases r with
  | cons r1 rr =>
    cases rr
    obtain ⟨a, us, rfl, k1, k2⟩ := h.to g r1
    exact ⟨a, us, rfl, .inl ⟨k1, fun p hp => q _ _ (.newT g hp k2)⟩⟩
/-! ### t[1:], t[::-1] -/
theorem dpAll_drop {K : PySem.W.Frag} {B : Hp} : ∀ {vs : List V} {ds : List PyData} (k : Nat), DqAll K B vs ds → DqAll K B (vs.drop k) (ds.drop k)
  | _, _, 0, h => h
  | _, _, _ + 1, .nil => .nil
  | _, _, k + 1, .cons _ t => dpAll_drop k t
theorem dpAll_rev {K : PySem.W.Frag} {B : Hp} {vs : List V} {ds : List PyData} (h : DqAll K B vs ds) : DqAll K B vs.reverse ds.reverse := by
  induction vs generalizing ds with
  | nil => cases h; exact .nil
  | cons v vs ih =>
    cases h with
    | cons r t =>
      rw [List.reverse_cons, List.reverse_cons]
      exact dpAll_append (ih t) (.cons r .nil)
theorem je_from1 {ds : List PyData} {k : Nat} {p1 p2 : Pos} (h : JE X a G S (.d (.tuple ds)) S1) (h0 : ds ≠ []) : JE X (.Subscript a (.Slice (some (.Constant (.int 1) k p1)) none none p2) pos) G S (.d (.tuple (ds.drop 1))) S1 := fun B σ H g sl =>
  wE_of (pe_slice sl_tupA pe_w (po_some pe_int) po_none) (wE_mono (h B σ H g sl) fun v H1 ⟨B1, w1, g1, r1⟩ => by
    obtain ⟨p, us, rfl, k1, k2⟩ := tup_to g1 r1
    have hl := dpAll_len k2
    have hpos : 0 < us.length := by
      rw [hl]
      cases ds with
      | nil => exact absurd rfl h0
      | cons d ds => exact Nat.succ_pos _
    have e1 : HT.sIx us.length 0 (some 1) = 1 := by
      unfold HT.sIx
      simp
      omega
    have e2 : HT.sIx us.length us.length none = us.length := rfl
    have e3 : cutV us (some 1) none = us.drop 1 := by
      unfold cutV
      rw [e1, e2, List.take_of_length_le (by rw [List.length_drop]; exact Nat.le_refl _)]
    refine ⟨1, rfl, p, us, rfl, k1, fun z => ?_, fun _ q hq => ?_⟩
    · rw [e1] at z
      exact absurd z.1 (by decide)
    · rw [e3]
      exact EQ.comp w1 g1 (.newT g1 hq (dpAll_drop 1 k2)))
end
end J

-- JR3
set_option Elab.async false
set_option linter.all false
set_option maxRecDepth 100000
set_option maxHeartbeats 4000000
/-! Dicts keyed by nested tuples. -/
namespace J
open PySem PySem.Spec PyProof.Rows L2

section
variable {X : Cx} {pins : List (Addr × Obj)} {σ : L2.St} {H : Hp} {s : Shared}
mutual
theorem key_of_dq (I : Inv X pins σ H s) : ∀ (k : NestedKey) (v : V) (u : Value), Dq X.K H v k.data → RelV v u → NestedIs s.heap k u
  | .none, v, u, h, r => by cases h; cases r; exact .none
  | .num i, v, u, h, r => by cases h; obtain ⟨t, rfl⟩ := r; exact .int i t
  | .text x, v, u, h, r => by cases h; obtain ⟨t, rfl⟩ := r; exact .text x t
  | .tup ks, v, u, h, r => by
    cases h with
    | tup hs ha =>
      cases r
      obtain ⟨its, rv, ⟨o, e, c, n, d⟩, _⟩ := I.tuple hs
      exact .tup e c d (by simpa using keys_of_dq I ks _ _ ha rv)
theorem keys_of_dq (I : Inv X pins σ H s) : ∀ (ks : List NestedKey) (vs : List V) (us : List Value), DqAll X.K H vs (NestedKey.datas ks) → Vals vs us → NestedAll s.heap ks us
  | [], _, _, h, r => by cases h; cases r; exact .nil
  | k :: ks, _, _, h, r => by
    cases h with
    | cons h1 h2 => cases r with
      | cons r1 r2 => exact .cons (key_of_dq I k _ _ h1 r1) (keys_of_dq I ks _ _ h2 r2)
end
end
/-- the keys stand as tuples -/
def NKs (K : PySem.W.Frag) (H : Hp) (xs : List NEnt) : Prop := ∀ x ∈ xs, Dq K H (.ref x.2.1) x.1.data
abbrev NRel : NEnt → NestedKey × Addr × Value → Prop := fun p q => p.1 = q.1 ∧ p.2.1 = q.2.1 ∧ RelV p.2.2 q.2.2
theorem nrel_keys : ∀ {xs : List NEnt} {vs : List (NestedKey × Addr × Value)}, Paired NRel xs vs → vs.map (·.1) = xs.map (·.1)
  | _, _, .nil => rfl
  | _, _, .cons h t => by rw [List.map_cons, List.map_cons, nrel_keys t, h.1]
theorem nrel_mem : ∀ {xs : List NEnt} {vs : List (NestedKey × Addr × Value)}, Paired NRel xs vs → ∀ q ∈ vs, ∃ p ∈ xs, NRel p q
  | _, _, .nil, q, hq => by cases hq
  | _, _, .cons h t, q, hq => by
    rcases List.mem_cons.mp hq with rfl | hq
    · exact ⟨_, List.mem_cons_self, h⟩
    · obtain ⟨p, hp, r⟩ := nrel_mem t q hq
      exact ⟨p, List.mem_cons_of_mem _ hp, r⟩
/-- what stands at k -/
def findN (xs : List NEnt) (k : NestedKey) : Option V := (xs.find? fun x => decide (x.1 = k)).map (·.2.2)
theorem nrel_at {k : NestedKey} : ∀ {xs : List NEnt} {vs : List (NestedKey × Addr × Value)}, Paired NRel xs vs → (atKey vs k).isSome = (findN xs k).isSome ∧ ∀ v, findN xs k = some v → ∃ p, atKey vs k = some p ∧ RelV v p.2
  | _, _, .nil => ⟨rfl, fun v e => by cases e⟩
  | x :: xs, y :: vs, .cons h t => by
    obtain ⟨i1, i2⟩ := nrel_at (k := k) t
    unfold atKey findN at i1 i2 ⊢
    rw [List.find?_cons, List.find?_cons, ← h.1]
    by_cases c : x.1 = k
    · rw [decide_eq_true c]
      exact ⟨rfl, fun v e => ⟨y.2, rfl, by cases e; exact h.2.2⟩⟩
    · rw [decide_eq_false c]
      exact ⟨i1, i2⟩
theorem findN_mem {k : NestedKey} : ∀ {xs : List NEnt}, (findN xs k).isSome = decide (k ∈ xs.map (·.1))
  | [] => by simp [findN]
  | x :: xs => by
    have ih := findN_mem (k := k) (xs := xs)
    unfold findN at ih ⊢
    rw [List.find?_cons]
    by_cases c : x.1 = k
    · rw [decide_eq_true c]
      simp [c]
    · rw [decide_eq_false c]
      rw [ih]
      have c' : ¬ k = x.1 := fun z => c z.symm
      simp [c']
theorem paired_append {α β : Type} {F : α → β → Prop} : ∀ {a : List α} {b : List β} {c : List α} {d : List β}, Paired F a b → Paired F c d → Paired F (a ++ c) (b ++ d)
  | _, _, _, _, .nil, k => k
  | _, _, _, _, .cons h t, k => .cons h (paired_append t k)
section
variable {X : Cx} {pins : List (Addr × Obj)} {σ : L2.St} {H : Hp} {s : Shared} {d : Addr} {xs : List NEnt}
theorem dn_get (I : Inv X pins σ H s) (h : Rd H d (DNO X.prog X.w d xs)) (hk : NKs X.K H xs) : (d == sysModules) = false ∧ xs.length ≤ sizeLine ∧ ∃ vs, Paired NRel xs vs ∧ s.heap.DictOfH (nestedKind X.prog X.w) d vs := by
  obtain ⟨⟨h1, h2, h3, vs, h4, o, es, ep, h5, h6, h7, h8, h9⟩, _⟩ := (show ObjOk X.prog X.w H s.heap d (.ext fun h => DNat X.prog X.w h d xs) from h.ok I.hok)
  refine ⟨h2, h1, vs, h4, o, es, ep, h5, h6, h7, h8, fun q hq => ?_, h9⟩
  obtain ⟨p, hp, r1, r2, r3⟩ := nrel_mem h4 q hq
  rw [← r1, ← r2]
  exact ⟨key_of_dq I _ _ _ (hk p hp) rfl, h3 p hp⟩
theorem dn_typeIs (I : Inv X pins σ H s) (h : Rd H d (DNO X.prog X.w d xs)) : s.TypeIs (.ref d) "dict" := by
  obtain ⟨⟨h1, h2, h3, vs, h4, o, es, ep, h5, h6, _⟩, _⟩ := (show ObjOk X.prog X.w H s.heap d (.ext fun h => DNat X.prog X.w h d xs) from h.ok I.hok)
  exact ⟨o, h5, h6.1⟩
theorem dn_ok {H' : Hp} {h' : Heap} {vs : List (NestedKey × Addr × Value)} {P : Program} {w : World} (h1 : xs.length ≤ sizeLine) (h2 : (d == sysModules) = false) (h3 : ∀ x ∈ xs, x.1.depth ≤ 8) (h4 : Paired NRel xs vs) (h5 : h'.DictOfH (nestedKind P w) d vs) :
    ObjOk P w H' h' d (DNO P w d xs) := by
  obtain ⟨o, es, ep, k1, k2, k3, k4, k5, k6⟩ := h5
  refine ⟨⟨h1, h2, h3, vs, h4, o, es, ep, k1, k2, k3, k4, k6⟩, ⟨o, k1⟩, fun g1 g2 ⟨m1, m2, m3, ws, m4, o', es', ep', m5, m6⟩ k => ⟨m1, m2, m3, ws, m4, o', es', ep', k _ m5, m6⟩⟩
end
section
variable {X : Cx}
/-! ### in, not in -/
def rInN (W : Wd) (neg : Bool) : R2 := fun x y H Q => ∃ d xs t k, x = .ref t ∧ y = .ref d ∧ Rd H d (DNO W.P W.w d xs) ∧ NKs W.K H xs ∧ Dq W.K H (.ref t) k.data ∧ k.depth ≤ 8 ∧ Q (.bl (if neg = true then !(findN xs k).isSome else (findN xs k).isSome)) H
theorem op_inN (hu : X.A.units + 64 < cLine) : OpR X (compareOp .In) (rInN (wd X) false) := by
  intro pins s σ H x y v u Q I rx ry h
  obtain ⟨d, xs, t, k, rfl, rfl, hd, hk, ht, hdp, q⟩ := h
  cases rx
  cases ry
  obtain ⟨h1, h2, vs, h3, h4⟩ := dn_get I hd hk
  refine wpAny_in_heap (knd := nestedKind X.prog X.w) (k := k) (by show X.A.units + 1 + 8 < cLine; omega) ⟨key_of_dq I k _ _ ht rfl, hdp⟩ h1 h4 ⟨.bl _, H, I.tok _, ?_, q⟩
  rw [(nrel_at h3).1]
  rfl
theorem op_notInN (hu : X.A.units + 64 < cLine) : OpR X (compareOp .NotIn) (rInN (wd X) true) := by
  intro pins s σ H x y v u Q I rx ry h
  obtain ⟨d, xs, t, k, rfl, rfl, hd, hk, ht, hdp, q⟩ := h
  cases rx
  cases ry
  obtain ⟨h1, h2, vs, h3, h4⟩ := dn_get I hd hk
  show wpAny _ _ (do return Value.bool (!(← contains (.ref d) (.ref t)))) _ _ s
  refine wpAny_bind (wpAny_contains_heap (knd := nestedKind X.prog X.w) (k := k) (by show X.A.units + 1 + 8 < cLine; omega) ⟨key_of_dq I k _ _ ht rfl, hdp⟩ h1 h4 (wpAny_pure ⟨.bl _, H, I.tok _, ?_, q⟩))
  rw [(nrel_at h3).1]
  rfl
/-! ### d[k] -/
def rIxN (W : Wd) : R2 := fun x y H Q => ∃ d xs t k v, x = .ref d ∧ y = .ref t ∧ Rd H d (DNO W.P W.w d xs) ∧ NKs W.K H xs ∧ Dq W.K H (.ref t) k.data ∧ k.depth ≤ 8 ∧ findN xs k = some v ∧ Q v H
theorem ix_N (hu : X.A.units + 64 < cLine) : IxR X (rIxN (wd X)) := by
  intro value slice pins s σ H x y v u Q I rx ry h hs
  obtain ⟨d, xs, t, k, r, rfl, rfl, hd, hk, ht, hdp, hf, q⟩ := h
  cases rx
  cases ry
  obtain ⟨h1, h2, vs, h3, h4⟩ := dn_get I hd hk
  obtain ⟨p, e1, e2⟩ := (nrel_at h3).2 _ hf
  exact tail_any (dn_typeIs I hd) PySem.F.slot_dict_getitem.lookup (wpAny_getItem_heap (knd := nestedKind X.prog X.w) (k := k) (by show X.A.units + 1 + 8 < cLine; omega) ⟨key_of_dq I k _ _ ht rfl, hdp⟩ h4 e1 ⟨r, H, I.tok _, e2, q⟩) hs
/-! ### d[k] = v, a new key -/
def rSetN (W : Wd) : V → V → V → Hp → (Hp → Prop) → Prop := fun o i v H Q => ∃ d xs t k, o = .ref d ∧ i = .ref t ∧ H d = some (DNO W.P W.w d xs) ∧ NKs W.K H xs ∧ Dq W.K H (.ref t) k.data ∧ k.depth ≤ 8 ∧ findN xs k = none ∧ xs.length < sizeLine ∧ Q (upd H d (DNO W.P W.w d (xs ++ [(k, t, v)])))
theorem dnk_depth (I : Inv X pins σ H s) (h : Rd H d (DNO X.prog X.w d xs)) : ∀ x ∈ xs, x.1.depth ≤ 8 := by
  obtain ⟨⟨h1, h2, h3, _⟩, _⟩ := (show ObjOk X.prog X.w H s.heap d (.ext fun h => DNat X.prog X.w h d xs) from h.ok I.hok)
  exact h3
theorem set_N (hu : X.A.units + 64 < cLine) : PSet X (rSetN (wd X)) := by
  intro pins s σ H o i v ov iv u Q I ro ri rv h
  obtain ⟨d, xs, t, k, rfl, rfl, hd, hk, ht, hdp, hf, hz, q⟩ := h
  cases ro
  cases ri
  obtain ⟨h1, h2, vs, h3, h4⟩ := dn_get I (.inl hd) hk
  have hl : xs.length = vs.length := Paired.length h3
  have hn : atKey vs k = none := by
    have := (nrel_at (k := k) h3).1
    rw [hf] at this
    cases e : atKey vs k with
    | none => rfl
    | some p => rw [e] at this; cases this
  refine wpAny_setItem_heap (knd := nestedKind X.prog X.w) (k := k) (by show X.A.units + 1 + 8 < cLine; omega) ⟨key_of_dq I k _ _ ht rfl, hdp⟩ h4 (fun h' hm' hs => ?_) (by omega)
  rw [storedH_new hn] at hm'
  have he : ∃ q, h'.get? d = some q := let ⟨q, _, _, hq, _⟩ := hm'; ⟨q, hq⟩
  refine ⟨_, d_write (t' := s.toks + _) I (by rw [hd]; exact True.intro) hs he (dn_ok (xs := xs ++ [(k, t, v)]) (by rw [List.length_append, List.length_singleton]; omega) h1 (fun x hx => ?_) (paired_append h3 (.cons ⟨rfl, rfl, rv⟩ .nil)) hm'), q⟩
  rcases List.mem_append.mp hx with hx | hx
  · exact dnk_depth I (.inl hd) x hx
  · rw [List.mem_singleton.mp hx]; exact hdp
/-! ### {}, {k: v} -/
def tDNewN (W : Wd) : TE := fun _ H Q => ∀ p, H p = none → Q (.ref p) (upd H p (DNO W.P W.w p []))
theorem dn_empty {P : Program} {w : World} {H : Hp} (h : Heap) (hb : sysModules < h.objs.size) : ObjOk P w H (h.push { cls := .type "dict", data := .dict #[] }) h.objs.size (DNO P w h.objs.size []) :=
  dn_ok (vs := []) (Nat.zero_le _) (beq_eq_false_iff_ne.mpr (Ne.symm (Nat.ne_of_lt hb))) (fun x hx => by cases hx) .nil (Heap.DictOfH.new h)
theorem pe_dnewN {pos : Pos} : PE X (.Dict [] [] pos) (tDNewN (wd X)) := ⟨fun pins s σ H Q I h =>
  wpAny_Dict_empty ⟨.ref s.heap.objs.size, _, I.laid (a := s.heap.objs.size) (o := DNO X.prog X.w s.heap.objs.size []) (t' := s.toks) (fun _ _ q => Heap.get?_push_of_some _ q) (Nat.le_refl _) (dn_empty s.heap I.big), rfl, h _ (I.hok.fresh (Nat.le_refl _))⟩⟩
/-- {e: f}: the new dict stands while the pair is made -/
def tDisp1 (W : Wd) (te tf : TE) : TE := fun σ H Q => ∀ p, H p = none → tPairs [(te, tf)] σ (upd H p (DNO W.P W.w p [])) fun ps H2 => H2 p = some (DNO W.P W.w p []) ∧ ∃ t y k, ps = [(.ref t, y)] ∧ Dq W.K H2 (.ref t) k.data ∧ k.depth ≤ 8 ∧ Q (.ref p) (upd H2 p (DNO W.P W.w p [(k, t, y)]))
theorem pe_disp1 {e f : Expr} {te tf : TE} {pos : Pos} (hu : X.A.units + 64 < cLine) (he : PE X e te) (hf : PE X f tf) : PE X (.Dict [some e] [f] pos) (tDisp1 (wd X) te tf) := by
  refine ⟨fun pins s σ H Q I h => ?_⟩
  have hn := I.hok.fresh (Nat.le_refl s.heap.objs.size)
  have I1 := I.laid (a := s.heap.objs.size) (o := DNO X.prog X.w s.heap.objs.size []) (h' := s.heap.push { cls := .type "dict", data := .dict #[] }) (t' := s.toks) (fun _ _ q => Heap.get?_push_of_some _ q) (Nat.le_refl _) (dn_empty s.heap I.big)
  have P : PPs X pos [some e] [f] [(te, tf)] := pps_cons he hf pps_nil
  rw [arm_eval_Dict, zip_pairTrees [some e] [f] X.env pos rfl rfl, dictDisplay_pairs (pairTrees [some e] [f] X.env pos) (by intro z; cases z) (Nat.lt_of_le_of_lt (Nat.le_refl 1) (by decide))]
  refine wpAny_bind (wpAny_standAt (wpAny_bind (wpAny_subDictH (knd := nestedKind X.prog X.w) (by show X.A.units + 8 < cLine; omega) (Nat.le_of_lt_succ (Nat.lt_of_le_of_lt (Nat.le_refl 1) (by decide))) (thn (P.run pins _ σ _ _ I1 (h _ hn)) fun ws s2 ⟨ps, H2, I2, rel, e0, t, y, k, eps, hk, hdp, q2⟩ => ?_))))
  subst eps
  cases rel with
  | @cons _ q _ qs r1 rr =>
    cases rr
    obtain ⟨q1, q2'⟩ := q
    obtain ⟨ra, rb⟩ := r1
    cases (show q1 = Value.ref t from ra)
    have hk' : (nestedKind X.prog X.w).is s2.heap k t := ⟨key_of_dq I2 k _ _ hk rfl, hdp⟩
    obtain ⟨h1, _, vs, h3, h4⟩ := dn_get I2 (.inl e0) (fun x hx => by cases hx)
    cases h3
    refine ⟨[(k, t, q2')], ⟨rfl, rfl, hk', trivial⟩, h4, fun h' tk hm hs => wpAny_pure ⟨.ref s.heap.objs.size, _, d_write I2 (by rw [e0]; exact True.intro) hs ?_ (dn_ok (xs := [(k, t, y)]) (by rw [sizeLine_eq]; exact (by decide : (1 : Nat) ≤ 16777216)) h1 (fun x hx => ?_) (.cons ⟨rfl, rfl, rb⟩ .nil) hm), rfl, q2⟩⟩
    · obtain ⟨o, _, _, ho, _⟩ := hm; exact ⟨o, ho⟩
    · rw [List.mem_singleton.mp hx]; exact hdp
/-! ### for k in d -/
/-- the keys of the locked dict at d -/
def ItN (P : Program) (w : World) (d : Addr) (o : Obj) (xs : List NEnt) : It :=
  ⟨fun i H => H d = some (.frz o (DNO P w d xs)) ∧ i < xs.length, fun i H x H' => H' = H ∧ ∃ e, xs[i]? = some e ∧ x = .ref e.2.1, fun i H => H d = some (.frz o (DNO P w d xs)) ∧ xs.length ≤ i⟩
theorem nrel_get : ∀ {xs : List NEnt} {vs : List (NestedKey × Addr × Value)} {i : Nat} {e : NEnt}, Paired NRel xs vs → xs[i]? = some e → ∃ q, vs[i]? = some q ∧ NRel e q
  | _, _, _, _, .nil, h => by simp at h
  | _, _, 0, _, .cons r _, h => by simp at h; subst h; exact ⟨_, rfl, r⟩
  | _, _, i + 1, e, .cons _ t, h => by
    obtain ⟨q, h1, h2⟩ := nrel_get (i := i) (e := e) t (by simpa using h)
    exact ⟨q, by simpa using h1, h2⟩
theorem frzN {pins : List (Addr × Obj)} {σ : L2.St} {H : Hp} {s : Shared} {d : Addr} {o : Obj} {xs : List NEnt} (I : Inv X pins σ H s) (h : H d = some (.frz o (DNO X.prog X.w d xs))) :
    (d == sysModules) = false ∧ s.heap.get? d = some o ∧ o.ExactDict ∧ ∃ (es : Array DictEntry) (ep : Nat), o.data = .dict es ep ∧ es.size = xs.length ∧ ∀ (i : Nat) (e : NEnt), xs[i]? = some e → ∃ en : DictEntry, es[i]? = some en ∧ en.key = .ref e.2.1 := by
  obtain ⟨hd, ⟨h1, h2, h3, vs, h4, o', es, ep, h5, h6, h7, h8, h9⟩, _⟩ := (show ObjOk X.prog X.w H s.heap d (.frz o (.ext fun h => DNat X.prog X.w h d xs)) from I.hok d _ h)
  rw [hd] at h5
  cases h5
  refine ⟨h2, hd, h6, es, ep, h7, ?_, fun i e he => ?_⟩
  · rw [size_of_entries h8, ← Paired.length h4]
  · obtain ⟨q, e1, e2⟩ := nrel_get h4 he
    refine ⟨_, by rw [entry_at h8 i, e1]; rfl, ?_⟩
    show Value.ref q.2.1 = _
    rw [← e2.2.1]
theorem turn_keysN {P : Program} {w : World} {K : PySem.W.Frag} {tg : Expr} {d : Addr} {o : Obj} {es : Array DictEntry} {ep : Nat} {xs : List NEnt} (it : Addr) (hod : o.data = .dict es ep) : Turn P w K tg (ItN P w d o xs) [it] it (fun i h => h.IsKeyIter it d i xs.length ep) where
  mem := by simp
  obj := fun i h st b hb => by
    have e : b = it := by simpa using hb
    subst e
    obtain ⟨oi, e, c, dd⟩ := st
    exact ⟨oi, e, fun v z => by rw [dd] at z; cases z⟩
  keep := fun i h h' st k => st.at fun oi e => k it (by simp) oi e
  item := by
    intro X hP hw hK hc i pins s σ H E I hf st hg
    subst hP hw hK
    obtain ⟨hd, hi⟩ := hg
    obtain ⟨f0, f1, f2, f3, f4, f5⟩ := hf it (by simp)
    obtain ⟨hs, hgd, hx, es', ep', hdt, hsz, ent⟩ := frzN I hd
    obtain ⟨rfl, rfl⟩ := dict_ep hod hdt
    have hkv : xs[i]? = some xs[i] := List.getElem?_eq_getElem hi
    obtain ⟨en, hen, hkey⟩ := ent i _ hkv
    refine next_key_item st hgd hdt hsz hen fun h' st' sb => ?_
    have I1 : Inv X pins σ H { s with heap := h' } := I.turned (t' := s.toks) (fun b ob hb e => (sb.2 b hb).trans e) f0 f1 f3 f4 f5
    obtain ⟨oi, e, c, dd⟩ := id st'
    exact ⟨en.key, rfl, go_of (s := { s with heap := h' }) e c dd (by decide) ⟨.ref xs[i].2.1, H, I1, hkey, ⟨rfl, _, hkv, rfl⟩, st', fun b hb => (hf b hb).1⟩⟩
  done := by
    intro X hP hw hK hc i pins s σ H E I hf st hg
    subst hP hw hK
    obtain ⟨hd, hi⟩ := hg
    obtain ⟨f0, f1, f2, f3, f4, f5⟩ := hf it (by simp)
    obtain ⟨hs, hgd, hx, es', ep', hdt, hsz, ent⟩ := frzN I hd
    obtain ⟨rfl, rfl⟩ := dict_ep hod hdt
    exact next_key_end (I.ok.hd hc) st hgd hdt hsz hi fun h' eb => ⟨rfl, I.turned (t' := s.toks) (fun b ob hb e => eb b ob hb e) f0 f1 f3 f4 f5⟩
  self := fun A i s Q E st h => by
    refine wpAny_pyIter_slot st.typeIs F.slot_dict_keyiterator_iter (wpAny_call_entry F.slot_dict_keyiterator_iter st.typeIs F.entry_dict_keyiterator_iter ?_ (F.args_dict_keyiterator_iter_1 _))
    show wpAny _ _ (ret (.ref it)) _ _ s
    exact wpAny_pure ⟨_, rfl, "dict_keyiterator", _, st.typeIs, F.slot_dict_keyiterator_next.lookup, h⟩
def iKeysN (W : Wd) (td : TE) : TI := fun σ H R => td σ H fun x H1 => ∃ d o xs, x = .ref d ∧ H1 d = some (.frz o (DNO W.P W.w d xs)) ∧ R (ItN W.P W.w d o xs) H1
theorem pi_keysN {tg e : Expr} {td : TE} (he : PE X e td) : PI X tg e (iKeysN (wd X) td) := by
  refine ⟨fun pins s σ H R I h => ?_⟩
  refine thn (he.run pins s σ H _ I h) fun u s1 ⟨x, H1, I1, rx, d, o, xs, ex, hd, q⟩ => ?_
  subst ex
  obtain rfl : u = Value.ref d := rx
  obtain ⟨hs, hgd, hx, es, ep, hdt, hsz, ent⟩ := frzN I1 hd
  refine iter_keys hs hgd hx hdt (pi_one (tk := s1.toks) I1 _ (turn_keysN _ hdt) ⟨_, Heap.get?_push_size _ rfl, rfl, ?_⟩ q)
  rw [hsz] <;> rfl
end

/-! ### the same, upon data -/
abbrev DK := NestedKey × PyData
def findD (kvs : List DK) (k : NestedKey) : Option PyData := (kvs.find? fun x => decide (x.1 = k)).map (·.2)
theorem entN_find {K : PySem.W.Frag} {B : Hp} {k : NestedKey} : ∀ {xs : List NEnt} {kvs : List DK}, Paired (EntN K B) xs kvs → (findN xs k).isSome = (findD kvs k).isSome ∧ ∀ d, findD kvs k = some d → ∃ v, findN xs k = some v ∧ Dq K B v d
  | _, _, .nil => ⟨rfl, fun v e => by cases e⟩
  | x :: xs, y :: vs, .cons h t => by
    obtain ⟨i1, i2⟩ := entN_find (k := k) t
    unfold findN findD at i1 i2 ⊢
    rw [List.find?_cons, List.find?_cons, ← h.1]
    by_cases c : x.1 = k
    · rw [decide_eq_true c]
      exact ⟨rfl, fun v e => ⟨_, rfl, by cases e; exact h.2.2⟩⟩
    · rw [decide_eq_false c]
      exact ⟨i1, i2⟩
theorem entN_keys {K : PySem.W.Frag} {B : Hp} : ∀ {xs : List NEnt} {kvs : List DK}, Paired (EntN K B) xs kvs → NKs K B xs
  | _, _, .nil => fun x hx => by cases hx
  | _, _, .cons h t => fun x hx => by
    rcases List.mem_cons.mp hx with rfl | hx
    · rw [h.1]; exact h.2.1
    · exact entN_keys t x hx
theorem NKs.mono {K : PySem.W.Frag} {B H : Hp} {xs : List NEnt} (e : ∀ a u, Rd B a u → Rd H a u) (h : NKs K B xs) : NKs K H xs := fun x hx => dp_mono e _ _ (h x hx)
/-- an owned dict, locked or not -/
inductive IsN (S : Sto) (p : Addr) (kvs : List DK) : Prop
  | m : S p = some (.dct kvs) → IsN S p kvs
  | f {o u} : S p = some (.dlk o u kvs) → IsN S p kvs
theorem IsN.to {W : Wd} {B H : Hp} {S : Sto} {p : Addr} {kvs : List DK} (h : IsN S p kvs) (g : Good W B S H) : ∃ xs, Rd H p (DNO W.P W.w p xs) ∧ Paired (EntN W.K B) xs kvs := by
  cases h with
  | m h =>
    obtain ⟨hb, xs, h1, h2⟩ := g.own p _ h
    exact ⟨xs, .inl h1, h2⟩
  | f h =>
    obtain ⟨hb, xs, h0, h1, h2⟩ := g.own p _ h
    exact ⟨xs, .inr ⟨_, by rw [← h0]; exact h1⟩, h2⟩
theorem dq_ref {K : PySem.W.Frag} {B : Hp} {v : V} {ds : List PyData} (h : Dq K B v (.tuple ds)) : ∃ t, v = .ref t := by cases h; exact ⟨_, rfl⟩
section
variable {X : Cx} {G : Gm} {S S1 S2 : Sto} {a b e i : Expr} {pos : Pos} {rest body : List Stmt} {D : DE}
theorem rj_inN {W : Wd} {neg : Bool} {p : Addr} {kvs : List DK} {ks : List NestedKey} (h : IsN S p kvs) (hd : (NestedKey.tup ks).depth ≤ 8) :
    RJ W (rInN W neg) (.d (NestedKey.tup ks).data) (.o p) S (.d (.bool (if neg = true then !(findD kvs (.tup ks)).isSome else (findD kvs (.tup ks)).isSome))) S := fun B H vx vy g r1 r2 Q q => by
  cases (show vy = .ref p from r2)
  obtain ⟨t, rfl⟩ := dq_ref r1
  obtain ⟨xs, h1, h2⟩ := h.to g
  refine ⟨p, xs, t, .tup ks, rfl, rfl, h1, (entN_keys h2).mono g.ex, dp_mono g.ex _ _ r1, hd, ?_⟩
  rw [(entN_find h2).1]
  exact q _ _ (.same g (.bl _))
theorem rj_ixN {W : Wd} {p : Addr} {kvs : List DK} {ks : List NestedKey} {d : PyData} (h : IsN S p kvs) (hd : (NestedKey.tup ks).depth ≤ 8) (hf : findD kvs (.tup ks) = some d) :
    RJ W (rIxN W) (.o p) (.d (NestedKey.tup ks).data) S (.d d) S := fun B H vx vy g r1 r2 Q q => by
  cases (show vx = .ref p from r1)
  obtain ⟨t, rfl⟩ := dq_ref r2
  obtain ⟨xs, h1, h2⟩ := h.to g
  obtain ⟨v, e1, e2⟩ := (entN_find h2).2 _ hf
  exact ⟨p, xs, t, .tup ks, v, rfl, rfl, h1, (entN_keys h2).mono g.ex, dp_mono g.ex _ _ r2, hd, e1, q _ _ (.same g e2)⟩
theorem jn_dict : JN X (.Dict [] [] pos) G S (.dct []) S := fun B σ H g sl =>
  wE_of pe_dnewN fun p hp => NQ.new g hp ⟨[], upd_same, .nil⟩
/-- {e: True}, .. -/
theorem jn_disp1 {f : Expr} {ks : List NestedKey} {d : PyData} (hu : X.A.units + 64 < cLine) (he : JE X e G S (.d (NestedKey.tup ks).data) S) (hf : JE X f G S (.d d) S) (hd : (NestedKey.tup ks).depth ≤ 8) : JN X (.Dict [some e] [f] pos) G S (.dct [(.tup ks, d)]) S := fun B σ H g sl =>
  wE_of (pe_disp1 hu pe_w pe_w) fun p hp => by
    obtain ⟨g0, w0⟩ := g.owned (o := DNO X.prog X.w p []) (m := .dct []) hp ⟨[], upd_same, .nil⟩
    have hs := g.snone hp
    have gS := g0.drop (SubS.set (m := .dct []) hs)
    refine wE_mono (he B σ _ gS sl) fun vx H1 ⟨B1, w1, g1, r1⟩ => ?_
    obtain ⟨sD1, gf1, wf1⟩ := frame g0 hs w1 g1
    refine wE_mono (hf B1 σ H1 g1 (sl.mono w1.b)) fun vy H2 ⟨B2, w2, g2, r2⟩ => ?_
    obtain ⟨sD2, gf2, wf2⟩ := frame gf1 hs w2 g2
    obtain ⟨t, rfl⟩ := dq_ref r1
    obtain ⟨hb, xs, k1, k2⟩ := gf2.own p _ sset_same
    cases k2
    have r1' := dp_mono w2.b.rd _ _ r1
    obtain ⟨g3, w3⟩ := gf2.wrote (a := p) (o := DNO X.prog X.w p [(.tup ks, t, vy)]) (m' := .dct [(.tup ks, d)]) sset_same ⟨[(.tup ks, t, vy)], upd_same, .cons ⟨rfl, r1', r2⟩ .nil⟩
    rw [sset_sset] at g3 w3
    exact ⟨k1, t, vy, .tup ks, rfl, dp_mono g2.ex _ _ r1', hd, ⟨B2, p, rfl, hs, ((w0.trans g0 wf1).trans gf1 wf2).trans gf2 w3, g3⟩⟩
/-- d[k] = e, a new key -/
theorem js_putN {p : Addr} {kvs : List DK} {ks : List NestedKey} {d : PyData} {tpos : Pos} (hu : X.A.units + 64 < cLine) (he : JE X e G S (.d d) S1) (ho : JE X a G S1 (.o p) S1) (hi : JE X i G S1 (.d (NestedKey.tup ks).data) S1) (hs : S1 p = some (.dct kvs)) (hd : (NestedKey.tup ks).depth ≤ 8)
    (hn : findD kvs (.tup ks) = none) (hz : kvs.length < sizeLine) (h : JS X rest G (sset S1 p (.dct (kvs ++ [(.tup ks, d)]))) D)
    (hs1 : swapsWithSole [.Subscript a i tpos] e pos.line X.env = pure false := by rfl) (hw : swappedStores [.Subscript a i tpos] e X.env = pure none := by rfl)
    (h1 : (assignEach [.Subscript a i tpos] X.env).map (·.2) = [assign (.Subscript a i tpos) X.env] := by rfl)
    (ha : ∀ v, assign (.Subscript a i tpos) X.env v = (do
      let ov ← holding [v] (eval a X.env)
      let iv ← holding [v, ov] (eval i X.env)
      standAt tpos
      holding [v, ov, iv] (setItem ov iv v)
      release [v, ov, iv] []) := by intro _; rfl) : JS X (.Assign [.Subscript a i tpos] e pos :: rest) G S D := js_cons fun B σ H g sl =>
  wS_of (ps_asg pe_w (pg_sub pe_w pe_w (set_N hu) ha) hs1 hw h1) (wE_mono (he B σ H g sl) fun v H1 ⟨B1, w1, g1, r1⟩ => wE_mono (ho B1 σ H1 g1 (sl.mono w1.b)) fun o H2 ⟨B2, w2, g2, r2⟩ => wE_mono (hi B2 σ H2 g2 (sl.mono (w1.b.trans w2.b))) fun iv H3 ⟨B3, w3, g3, r3⟩ => by
    cases (show o = .ref p from r2)
    obtain ⟨t, rfl⟩ := dq_ref r3
    obtain ⟨hb, xs, e1, e2⟩ := g3.own p _ hs
    have hl := Paired.length e2
    have hf : findN xs (.tup ks) = none := by
      have := (entN_find (k := .tup ks) e2).1
      rw [hn] at this
      cases z : findN xs (.tup ks) with
      | none => rfl
      | some p => rw [z] at this; cases this
    obtain ⟨g', w'⟩ := g3.wrote (o := DNO X.prog X.w p (xs ++ [(.tup ks, t, v)])) (m' := .dct (kvs ++ [(.tup ks, d)])) hs ⟨_, upd_same, paired_append e2 (.cons (show EntN X.K B3 (.tup ks, t, v) (.tup ks, d) from ⟨rfl, r3, dp_mono (w2.b.trans w3.b).rd _ _ r1⟩) .nil)⟩
    exact ⟨p, xs, t, .tup ks, rfl, rfl, e1, (entN_keys e2).mono g3.ex, dp_mono g3.ex _ _ r3, hd, hf, by omega, B3, G, _, ((w1.trans g1 w2).trans g2 w3).trans g3 w', g', sl.mono ((w1.b.trans w2.b).trans w3.b), h⟩)
/-! ### a dict locked while a statement runs -/
def unlk (p : Addr) (kvs : List DK) (f : Sto → Prop) (o : Obj) (u : HO) : Sto → Prop := fun S2 => S2 p = some (.dlk o u kvs) ∧ f (sset S2 p (.dct kvs))
theorem js_lock {st : Stmt} {p : Addr} {kvs : List DK} (hs : S p = some (.dct kvs)) (h : ∀ o u, JS1 X st G (sset S p (.dlk o u kvs)) ⟨fun G' => unlk p kvs (fun S2 => JS X rest G' S2 D) o u, fun r => unlk p kvs (D.rt r) o u, fun G' => unlk p kvs (D.bk G') o u, fun G' => unlk p kvs (D.ct G') o u⟩) :
    JS X (st :: rest) G S D := js_cons fun B σ H g sl => by
  obtain ⟨hb, xs, e1, e2⟩ := g.own p _ hs
  refine wS_of (ps_lock ps_w) ⟨p, DNO X.prog X.w p xs, e1, True.intro, fun od => ?_⟩
  obtain ⟨g', w'⟩ := g.wrote (o := .frz od (DNO X.prog X.w p xs)) (m' := .dlk od (DNO X.prog X.w p xs) kvs) hs ⟨xs, rfl, upd_same, e2⟩
  have back : ∀ {B2 H2 : Hp} {S2 : Sto}, Gw B (sset S p (.dlk od (DNO X.prog X.w p xs) kvs)) (upd H p (.frz od (DNO X.prog X.w p xs))) B2 S2 H2 → Good (wd X) B2 S2 H2 → S2 p = some (.dlk od (DNO X.prog X.w p xs) kvs) →
      H2 p = some (.frz od (DNO X.prog X.w p xs)) ∧ Good (wd X) B2 (sset S2 p (.dct kvs)) (upd H2 p (DNO X.prog X.w p xs)) ∧ Gw B S H B2 (sset S2 p (.dct kvs)) (upd H2 p (DNO X.prog X.w p xs)) := fun w2 g2 h2 => by
    obtain ⟨hb2, ys, k0, k1, k2⟩ := g2.own p _ h2
    obtain ⟨g3, w3⟩ := g2.wrote (o := DNO X.prog X.w p xs) (m' := .dct kvs) h2 ⟨ys, by rw [upd_same, k0], k2⟩
    exact ⟨k1, g3, (w'.trans g' w2).trans g2 w3⟩
  refine wS_mono (h od _ B σ _ g' sl) (fun σ' H' ⟨B2, G2, S2, w2, g2, sl2, hp, q⟩ => ?_) (fun v H' ⟨r, S2, ⟨B2, w2, g2, r2⟩, hp, q⟩ => ?_) (fun σ' H' ⟨B2, G2, S2, w2, g2, sl2, hp, q⟩ => ?_) (fun σ' H' ⟨B2, G2, S2, w2, g2, sl2, hp, q⟩ => ?_)
  · obtain ⟨k1, g3, w3⟩ := back w2 g2 hp
    exact ⟨k1, B2, G2, _, w3, g3, sl2, q⟩
  · obtain ⟨k1, g3, w3⟩ := back w2 g2 hp
    exact ⟨k1, r, _, ⟨B2, w3, g3, r2⟩, q⟩
  · obtain ⟨k1, g3, w3⟩ := back w2 g2 hp
    exact ⟨k1, B2, G2, _, w3, g3, sl2, q⟩
  · obtain ⟨k1, g3, w3⟩ := back w2 g2 hp
    exact ⟨k1, B2, G2, _, w3, g3, sl2, q⟩
theorem entN_get {K : PySem.W.Frag} {B : Hp} : ∀ {xs : List NEnt} {kvs : List DK} {i : Nat} {e : DK}, Paired (EntN K B) xs kvs → kvs[i]? = some e → ∃ q, xs[i]? = some q ∧ EntN K B q e
  | _, _, _, _, .nil, h => by simp at h
  | _, _, 0, _, .cons r _, h => by simp at h; subst h; exact ⟨_, rfl, r⟩
  | _, _, i + 1, e, .cons _ t, h => by
    obtain ⟨q, h1, h2⟩ := entN_get (i := i) (e := e) t (by simpa using h)
    exact ⟨q, by simpa using h1, h2⟩
/-- the locked dict of a name, by its keys -/
theorem ji_keysN {tg : Expr} {p : Addr} {kvs : List DK} {o : Obj} {u : HO} (he : JE X e G S (.o p) S1) (hp : S1 p = some (.dlk o u kvs)) : JI X tg e G S (kvs.map (·.1.data)) (fun S' => S' p = some (.dlk o u kvs)) S1 := fun B σ H g sl =>
  wI_of (pi_keysN pe_w) (wE_mono (he B σ H g sl) fun v H1 ⟨B1, w1, g1, r1⟩ => by
    have ev : v = .ref p := r1
    subst ev
    obtain ⟨hb, xs, h0, h1, h2⟩ := g1.own p _ hp
    subst h0
    refine ⟨p, o, xs, rfl, h1, B1, w1, g1, fun B2 S2 H2 le ho g2 => ?_⟩
    obtain ⟨_, ys, k0, k1, k2⟩ := g2.own p _ ho
    have hl2 : xs.length = kvs.length := Paired.length h2
    refine ⟨fun i d hd => ?_, fun i hi => ⟨k1, by rw [List.length_map] at hi; omega⟩⟩
    rw [List.getElem?_map] at hd
    obtain ⟨e, he', rfl⟩ := Option.map_eq_some_iff.mp hd
    have hi : i < kvs.length := (List.getElem?_eq_some_iff.mp he').1
    refine ⟨⟨k1, by omega⟩, fun x H' ⟨e1, q, e2, e3⟩ => ?_⟩
    subst e1 e3
    obtain ⟨q', e4, e5⟩ := entN_get h2 he'
    rw [e2] at e4; cases e4
    exact .same g2 (dp_mono le.rd _ _ e5.2.1))
end
end J

-- JR4
set_option Elab.async false
set_option linter.all false
set_option maxRecDepth 100000
set_option maxHeartbeats 4000000
/-! Dicts keyed by None and numbers. -/
namespace J
open PySem PySem.Spec PyProof.Rows L2

def kVo : Option Key → V
  | none => .non
  | some k => kV k
def kD : Option Key → PyData
  | none => .none
  | some (.inl i) => .int i
  | some (.inr x) => .str x
theorem dq_kD {K : PySem.W.Frag} {B : Hp} {v : V} {k : Option Key} (h : Dq K B v (kD k)) : v = kVo k := by
  cases k with
  | none => cases h; rfl
  | some k => cases k <;> (cases h; rfl)
theorem kVo_dq {K : PySem.W.Frag} {B : Hp} (k : Option Key) : Dq K B (kVo k) (kD k) := by
  cases k with
  | none => exact .non
  | some k => cases k with
    | inl i => exact .int i
    | inr x => exact .str x
theorem kVo_is {P : Program} {w : World} {k : Option Key} {u : Value} (r : RelV (kVo k) u) : (noneKind P w).is k u = true := by
  cases k with
  | none => cases r; rfl
  | some k => cases k with
    | inl i => obtain ⟨t, rfl⟩ := r; exact keyIs_int i t
    | inr x => obtain ⟨t, rfl⟩ := r; exact keyIs_str x t
theorem is_kVo {P : Program} {w : World} {k : Option Key} {u : Value} (h : (noneKind P w).is k u = true) : RelV (kVo k) u := by
  cases k with
  | none => exact nk_none (show nkIs none u = true from h)
  | some k =>
    rcases keyIs_shape (show keyIs k u = true from h) with ⟨i, t, rfl, rfl⟩ | ⟨x, t, rfl, rfl⟩
    · exact ⟨t, rfl⟩
    · exact ⟨t, rfl⟩
section
variable {κ β γ : Type} [DecidableEq κ]
def putG (xs : List (κ × β)) (k : κ) (v : β) : List (κ × β) :=
  if xs.any (fun kv => kv.1 = k) then xs.map (fun kv => if kv.1 = k then (kv.1, v) else kv) else xs ++ [(k, v)]
def findG (xs : List (κ × β)) (k : κ) : Option β := (xs.find? fun kv => kv.1 = k).map (·.2)
abbrev KR (F : β → γ → Prop) : List (κ × β) → List (κ × γ) → Prop := Paired fun p q => p.1 = q.1 ∧ F p.2 q.2
theorem kr_any {F : β → γ → Prop} {k : κ} : ∀ {xs : List (κ × β)} {ys : List (κ × γ)}, KR F xs ys → (xs.any fun kv => kv.1 = k) = ys.any fun kv => kv.1 = k
  | _, _, .nil => rfl
  | _, _, .cons h t => by rw [List.any_cons, List.any_cons, kr_any t, h.1]
theorem kr_map {F : β → γ → Prop} {k : κ} {v : β} {u : γ} (r : F v u) : ∀ {xs : List (κ × β)} {ys : List (κ × γ)}, KR F xs ys → KR F (xs.map fun kv => if kv.1 = k then (kv.1, v) else kv) (ys.map fun kv => if kv.1 = k then (kv.1, u) else kv)
  | _, _, .nil => .nil
  | x :: _, y :: _, .cons h t => by
    rw [List.map_cons, List.map_cons]
    refine .cons ?_ (kr_map r t)
    by_cases c : x.1 = k
    · rw [if_pos c, if_pos (by rw [← h.1]; exact c)]; exact ⟨h.1, r⟩
    · rw [if_neg c, if_neg (by rw [← h.1]; exact c)]; exact h
theorem kr_put {F : β → γ → Prop} {k : κ} {v : β} {u : γ} (r : F v u) {xs : List (κ × β)} {ys : List (κ × γ)} (h : KR F xs ys) : KR F (putG xs k v) (putG ys k u) := by
  unfold putG
  rw [kr_any h]
  split
  · exact kr_map r h
  · exact paired_append h (.cons ⟨rfl, r⟩ .nil)
theorem kr_find {F : β → γ → Prop} {k : κ} : ∀ {xs : List (κ × β)} {ys : List (κ × γ)}, KR F xs ys → (findG xs k = none ∧ findG ys k = none) ∨ ∃ v u, findG xs k = some v ∧ findG ys k = some u ∧ F v u
  | _, _, .nil => .inl ⟨rfl, rfl⟩
  | x :: xs, y :: ys, .cons h t => by
    have ih := kr_find (k := k) t
    unfold findG at ih ⊢
    rw [List.find?_cons, List.find?_cons, ← h.1]
    by_cases c : x.1 = k
    · rw [decide_eq_true c]
      exact .inr ⟨_, _, rfl, rfl, h.2⟩
    · rw [decide_eq_false c]
      exact ih
theorem putG_len (xs : List (κ × β)) (k : κ) (v : β) : (putG xs k v).length ≤ xs.length + 1 := by
  unfold putG
  split
  · rw [List.length_map]; omega
  · rw [List.length_append]; exact Nat.le_refl _
end
section
variable {X : Cx} {pins : List (Addr × Obj)} {σ : L2.St} {H : Hp} {s : Shared} {d : Addr} {xs : List (Option Key × V)}
theorem dl_get (I : Inv X pins σ H s) (h : Rd H d (DLO X.prog X.w d xs)) : (d == sysModules) = false ∧ xs.length ≤ sizeLine ∧ ∃ vs, KR RelV xs vs ∧ s.heap.DictOf (noneKind X.prog X.w) d vs := by
  obtain ⟨⟨h1, h2, vs, h4, h5⟩, _⟩ := (show ObjOk X.prog X.w H s.heap d (.ext fun h => DLat X.prog X.w h d xs) from h.ok I.hok)
  exact ⟨h2, h1, vs, h4, h5⟩
theorem dl_ok {H' : Hp} {h' : Heap} {vs : List (Option Key × Value)} {P : Program} {w : World} (h1 : xs.length ≤ sizeLine) (h2 : (d == sysModules) = false) (h4 : KR RelV xs vs) (h5 : h'.DictOf (noneKind P w) d vs) :
    ObjOk P w H' h' d (DLO P w d xs) := by
  have h6 := h5
  obtain ⟨o, es, ep, k1, k2⟩ := h5
  refine ⟨⟨h1, h2, vs, h4, h6⟩, ⟨o, k1⟩, fun g1 g2 ⟨m1, m2, ws, m4, o', es', ep', m5, m6⟩ k => ⟨m1, m2, ws, m4, o', es', ep', k _ m5, m6⟩⟩
end
section
variable {X : Cx}
/-! ### d[k], d[k] = v, d.get(k, x), {} -/
def rIxL' (W : Wd) : R2 := fun x y H Q => ∃ d xs k v, x = .ref d ∧ y = kVo k ∧ Rd H d (DLO W.P W.w d xs) ∧ findG xs k = some v ∧ Q v H
theorem find_value (vs : List (Option Key × Value)) (k : Option Key) : valueAt vs k = findG vs k := rfl
theorem ix_Lf : IxR X (rIxL' (wd X)) := by
  intro value slice pins s σ H x y v u Q I rx ry h hs
  obtain ⟨d, xs, k, r, rfl, rfl, hd, hf, q⟩ := h
  cases rx
  obtain ⟨h1, h2, vs, h3, h4⟩ := dl_get I hd
  rcases kr_find (k := k) h3 with ⟨e1, e2⟩ | ⟨v', u', e1, e2, e3⟩
  · rw [hf] at e1; cases e1
  · rw [hf] at e1; cases e1
    exact tail_any h4.typeIs PySem.F.slot_dict_getitem.lookup (wpAny_getItem_of (kVo_is ry) h4.mapOf ((find_value vs k).trans e2) ⟨r, H, I.tok _, e3, q⟩) hs
def rSetLf (W : Wd) : V → V → V → Hp → (Hp → Prop) → Prop := fun o i v H Q => ∃ d xs k, o = .ref d ∧ i = kVo k ∧ H d = some (DLO W.P W.w d xs) ∧ xs.length < sizeLine ∧ Q (upd H d (DLO W.P W.w d (putG xs k v)))
theorem set_Lf : PSet X (rSetLf (wd X)) := by
  intro pins s σ H o i v ov iv u Q I ro ri rv h
  obtain ⟨d, xs, k, rfl, rfl, hd, hz, q⟩ := h
  cases ro
  obtain ⟨h1, h2, vs, h3, h4⟩ := dl_get I (.inl hd)
  have hl : xs.length = vs.length := Paired.length h3
  refine wpAny_setItem_pairs (kVo_is ri) h4 (fun h' hm' hs => ?_) (by omega)
  have he : ∃ q, h'.get? d = some q := let ⟨q, _, _, hq, _⟩ := hm'; ⟨q, hq⟩
  have hp := putG_len xs k v
  exact ⟨_, d_write (t' := s.toks + _) I (by rw [hd]; exact True.intro) hs he (dl_ok (xs := putG xs k v) (by omega) h1 (kr_put rv h3) hm'), q⟩
def tDNewL (W : Wd) : TE := fun _ H Q => ∀ p, H p = none → Q (.ref p) (upd H p (DLO W.P W.w p []))
theorem pe_dnewL {pos : Pos} : PE X (.Dict [] [] pos) (tDNewL (wd X)) := ⟨fun pins s σ H Q I h =>
  wpAny_Dict_empty ⟨.ref s.heap.objs.size, _, I.laid (a := s.heap.objs.size) (o := DLO X.prog X.w s.heap.objs.size []) (t' := s.toks) (fun _ _ q => Heap.get?_push_of_some _ q) (Nat.le_refl _)
    (dl_ok (vs := []) (Nat.zero_le _) (beq_eq_false_iff_ne.mpr (Ne.symm (Nat.ne_of_lt I.big))) .nil (Heap.DictOf.new _)), rfl, h _ (I.hok.fresh (Nat.le_refl _))⟩⟩
def tLGet (W : Wd) (td ty tx : TE) : TE := fun σ H Q => td σ H fun x H1 => ∃ a, x = .ref a ∧ (∃ xs, Rd H1 a (DLO W.P W.w a xs)) ∧ ty σ H1 fun y H2 => tx σ H2 fun z H3 => ∃ xs k, Rd H3 a (DLO W.P W.w a xs) ∧ y = kVo k ∧ Q ((findG xs k).getD z) H3
theorem pe_lget {o e f : Expr} {td ty tx : TE} {apos cpos : Pos} (ho : PE X o td) (he : PE X e ty) (hf : PE X f tx) (m : M2 X o "get" apos e f cpos) : PE X (.Call (.Attribute o "get" apos) [e, f] [] cpos) (tLGet (wd X) td ty tx) := by
  refine ⟨fun pins s σ H Q I h => ?_⟩
  refine wpAny_Call_method m.base m.few m.line PySem.F.plainAttrs_dict PySem.F.slot_dict_get PySem.F.type_dict_get (thn (ho.run pins s σ H _ I h) fun u s1 ⟨x, H1, I1, rx, a, ex, ⟨xs, d⟩, q1⟩ => ?_)
  subst ex
  obtain rfl : u = Value.ref a := rx
  obtain ⟨_, _, vs, _, h4⟩ := dl_get I1 d
  refine ⟨h4.typeIs, fun b eb => ?_, ?_⟩
  · cases eb
    obtain ⟨o, es, ep, k1, k2, _⟩ := h4
    exact ⟨o, k1, k2.2.1⟩
  rw [m.trees]
  refine Calls.callWith_builtin rfl (Calls.evalArgs_plain (Calls.spliced_cons (thn (he.run pins s1 σ H1 _ I1 q1) fun iv s2 ⟨y, H2, I2, ry, q2⟩ =>
    Calls.spliced_cons (thn (hf.run pins s2 σ H2 _ I2 q2) fun fv s3 ⟨z, H3, I3, rz, ys, k, d3, ey, q3⟩ => Calls.spliced_nil ?_))))
  subst ey
  obtain ⟨h1, h2, ws, h3, h4⟩ := dl_get I3 d3
  refine call_meetsIn PySem.F.slot_dict_get h4.typeIs PySem.F.entry_dict_get (PySem.F.args_dict_get_3 _ _ _) (meets_dict_get_default (noneKind X.prog X.w) a (kVo_is ry) h1 fv) ⟨_, h4.mapOf, ⟨_, H3, I3.tok _, ?_, q3⟩⟩
  rw [find_value]
  rcases kr_find (k := k) h3 with ⟨e1, e2⟩ | ⟨v', u', e1, e2, e3⟩
  · rw [e1, e2]; exact rz
  · rw [e1, e2]; exact e3
/-! ### for k in d -/
def ItL' (P : Program) (w : World) (d : Addr) (o : Obj) (xs : List (Option Key × V)) : It :=
  ⟨fun i H => H d = some (.frz o (DLO P w d xs)) ∧ i < xs.length, fun i H x H' => H' = H ∧ ∃ e, xs[i]? = some e ∧ x = kVo e.1, fun i H => H d = some (.frz o (DLO P w d xs)) ∧ xs.length ≤ i⟩
theorem kr_get {κ β γ : Type} {F : β → γ → Prop} : ∀ {xs : List (κ × β)} {vs : List (κ × γ)} {i : Nat} {e : κ × β}, KR F xs vs → xs[i]? = some e → ∃ q, vs[i]? = some q ∧ e.1 = q.1 ∧ F e.2 q.2
  | _, _, _, _, .nil, h => by simp at h
  | _, _, 0, _, .cons r _, h => by simp at h; subst h; exact ⟨_, rfl, r⟩
  | _, _, i + 1, e, .cons _ t, h => by
    obtain ⟨q, h1, h2⟩ := kr_get (i := i) (e := e) t (by simpa using h)
    exact ⟨q, by simpa using h1, h2⟩
theorem frzL {pins : List (Addr × Obj)} {σ : L2.St} {H : Hp} {s : Shared} {d : Addr} {o : Obj} {xs : List (Option Key × V)} (I : Inv X pins σ H s) (h : H d = some (.frz o (DLO X.prog X.w d xs))) :
    (d == sysModules) = false ∧ s.heap.get? d = some o ∧ o.ExactDict ∧ ∃ (es : Array DictEntry) (ep : Nat) (vs : List (Option Key × Value)), o.data = .dict es ep ∧ es.size = xs.length ∧ KR RelV xs vs ∧ s.heap.DictAt (noneKind X.prog X.w) d vs ep := by
  obtain ⟨hd, ⟨h1, h2, vs, h4, o', es, ep, h5, h6, h7, h8⟩, _⟩ := (show ObjOk X.prog X.w H s.heap d (.frz o (.ext fun h => DLat X.prog X.w h d xs)) from I.hok d _ h)
  rw [hd] at h5
  cases h5
  refine ⟨h2, hd, h6, es, ep, vs, h7, ?_, h4, o, es, hd, h6, h7, h8⟩
  have l1 := h8.2.1.length
  have l2 : xs.length = vs.length := Paired.length h4
  rw [Array.length_toList] at l1
  omega
theorem turn_keysL {P : Program} {w : World} {K : PySem.W.Frag} {tg : Expr} {d : Addr} {o : Obj} {es : Array DictEntry} {ep : Nat} {xs : List (Option Key × V)} (it : Addr) (hod : o.data = .dict es ep) : Turn P w K tg (ItL' P w d o xs) [it] it (fun i h => h.IsKeyIter it d i xs.length ep) where
  mem := by simp
  obj := fun i h st b hb => by
    have e : b = it := by simpa using hb
    subst e
    obtain ⟨oi, e, c, dd⟩ := st
    exact ⟨oi, e, fun v z => by rw [dd] at z; cases z⟩
  keep := fun i h h' st k => st.at fun oi e => k it (by simp) oi e
  item := by
    intro X hP hw hK hc i pins s σ H E I hf st hg
    subst hP hw hK
    obtain ⟨hd, hi⟩ := hg
    obtain ⟨f0, f1, f2, f3, f4, f5⟩ := hf it (by simp)
    obtain ⟨hs, hgd, hx, es', ep', vs, hdt, hsz, kv, hm⟩ := frzL I hd
    obtain ⟨rfl, rfl⟩ := dict_ep hod hdt
    have hkv : xs[i]? = some xs[i] := List.getElem?_eq_getElem hi
    obtain ⟨u, hu, ru, ru2⟩ := kr_get kv hkv
    have hl : xs.length = vs.length := Paired.length kv
    rw [hl] at st
    refine wpAny_pyNext_dict_item (k := u.1) (v := u.2) st hm hu fun key h' hkey st' sb => ?_
    have I1 : Inv X pins σ H { s with heap := h' } := I.turned (t' := s.toks) (fun b ob hb e => (sb.2 b hb).trans e) f0 f1 f3 f4 f5
    obtain ⟨oi, e, c, dd⟩ := id st'
    refine ⟨key, rfl, go_of (s := { s with heap := h' }) e c dd (by decide) ⟨kVo xs[i].1, H, I1, by rw [ru]; exact is_kVo hkey, ⟨rfl, _, hkv, rfl⟩, ?_, fun b hb => (hf b hb).1⟩⟩
    show h'.IsKeyIter it d (i + 1) xs.length _
    rw [hl]
    exact st'
  done := by
    intro X hP hw hK hc i pins s σ H E I hf st hg
    subst hP hw hK
    obtain ⟨hd, hi⟩ := hg
    obtain ⟨f0, f1, f2, f3, f4, f5⟩ := hf it (by simp)
    obtain ⟨hs, hgd, hx, es', ep', vs, hdt, hsz, kv, hm⟩ := frzL I hd
    obtain ⟨rfl, rfl⟩ := dict_ep hod hdt
    exact next_key_end (I.ok.hd hc) st hgd hdt hsz hi fun h' eb => ⟨rfl, I.turned (t' := s.toks) (fun b ob hb e => eb b ob hb e) f0 f1 f3 f4 f5⟩
  self := fun A i s Q E st h => wpAny_pyIter_keyiter st h
def iKeysL (W : Wd) (td : TE) : TI := fun σ H R => td σ H fun x H1 => ∃ d o xs, x = .ref d ∧ H1 d = some (.frz o (DLO W.P W.w d xs)) ∧ R (ItL' W.P W.w d o xs) H1
theorem pi_keysL {tg e : Expr} {td : TE} (he : PE X e td) : PI X tg e (iKeysL (wd X) td) := by
  refine ⟨fun pins s σ H R I h => ?_⟩
  refine thn (he.run pins s σ H _ I h) fun u s1 ⟨x, H1, I1, rx, d, o, xs, ex, hd, q⟩ => ?_
  subst ex
  obtain rfl : u = Value.ref d := rx
  obtain ⟨hs, hgd, hx, es, ep, vs, hdt, hsz, kv, hm⟩ := frzL I1 hd
  refine iter_keys hs hgd hx hdt (pi_one (tk := s1.toks) I1 _ (turn_keysL _ hdt) ⟨_, Heap.get?_push_size _ rfl, rfl, ?_⟩ q)
  rw [hsz] <;> rfl
end

/-! ### the same, upon data -/
abbrev DL := Option Key × PyData
theorem entL_kr {K : PySem.W.Frag} {B : Hp} {xs : List (Option Key × V)} {kvs : List DL} (h : Paired (EntL K B) xs kvs) : KR (Dq K B) xs kvs := h
inductive IsLf (S : Sto) (p : Addr) (kvs : List DL) : Prop
  | m : S p = some (.dlf kvs) → IsLf S p kvs
  | f {o u} : S p = some (.dlfk o u kvs) → IsLf S p kvs
theorem IsLf.to {W : Wd} {B H : Hp} {S : Sto} {p : Addr} {kvs : List DL} (h : IsLf S p kvs) (g : Good W B S H) : ∃ xs, Rd H p (DLO W.P W.w p xs) ∧ KR (Dq W.K B) xs kvs := by
  cases h with
  | m h =>
    obtain ⟨hb, xs, h1, h2⟩ := g.own p _ h
    exact ⟨xs, .inl h1, h2⟩
  | f h =>
    obtain ⟨hb, xs, h0, h1, h2⟩ := g.own p _ h
    exact ⟨xs, .inr ⟨_, by rw [← h0]; exact h1⟩, h2⟩
section
variable {X : Cx} {G : Gm} {S S1 S2 : Sto} {a b e i : Expr} {pos : Pos} {rest body : List Stmt} {D : DE}
theorem rj_ixLf {W : Wd} {p : Addr} {kvs : List DL} {k : Option Key} {d : PyData} (h : IsLf S p kvs) (hf : findG kvs k = some d) : RJ W (rIxL' W) (.o p) (.d (kD k)) S (.d d) S := fun B H vx vy g r1 r2 Q q => by
  cases (show vx = .ref p from r1)
  have e2 := dq_kD r2
  subst e2
  obtain ⟨xs, h1, h2⟩ := h.to g
  rcases kr_find (k := k) h2 with ⟨e1, e2⟩ | ⟨v', u', e1, e2, e3⟩
  · rw [hf] at e2; cases e2
  · rw [hf] at e2; cases e2
    exact ⟨p, xs, k, v', rfl, rfl, h1, e1, q _ _ (.same g e3)⟩
theorem jn_dictL : JN X (.Dict [] [] pos) G S (.dlf []) S := fun B σ H g sl =>
  wE_of pe_dnewL fun p hp => NQ.new g hp ⟨[], upd_same, .nil⟩
/-- d.get(k, x) -/
theorem je_lget {f : Expr} {apos cpos : Pos} {p : Addr} {kvs : List DL} {k : Option Key} {d : PyData} (m : M2 X a "get" apos e f cpos) (ho : JE X a G S (.o p) S) (he : JE X e G S (.d (kD k)) S) (hf : JE X f G S (.d d) S) (hs : S p = some (.dlf kvs)) :
    JE X (.Call (.Attribute a "get" apos) [e, f] [] cpos) G S (.d ((findG kvs k).getD d)) S := fun B σ H g sl =>
  wE_of (pe_lget pe_w pe_w pe_w m) (wE_mono (ho B σ H g sl) fun v H1 ⟨B1, w1, g1, r1⟩ => by
    cases (show v = .ref p from r1)
    obtain ⟨ys, k1, _⟩ := (IsLf.m hs).to g1
    refine ⟨p, rfl, ⟨ys, k1⟩, wE_mono (he B1 σ H1 g1 (sl.mono w1.b)) fun vy H2 ⟨B2, w2, g2, r2⟩ => wE_mono (hf B2 σ H2 g2 (sl.mono (w1.b.trans w2.b))) fun vz H3 ⟨B3, w3, g3, r3⟩ => ?_⟩
    obtain ⟨xs, k2, k3⟩ := (IsLf.m hs).to g3
    refine ⟨xs, k, k2, dq_kD r2, B3, (w1.trans g1 w2).trans g2 w3, g3, ?_⟩
    rcases kr_find (k := k) k3 with ⟨e1, e2⟩ | ⟨v', u', e1, e2, e3⟩
    · rw [e1, e2]; exact r3
    · rw [e1, e2]; exact e3)
/-- d[k] = e -/
theorem js_putL {p : Addr} {kvs : List DL} {k : Option Key} {d : PyData} {tpos : Pos} (he : JE X e G S (.d d) S1) (ho : JE X a G S1 (.o p) S1) (hi : JE X i G S1 (.d (kD k)) S1) (hs : S1 p = some (.dlf kvs))
    (hz : kvs.length < sizeLine) (h : JS X rest G (sset S1 p (.dlf (putG kvs k d))) D)
    (hs1 : swapsWithSole [.Subscript a i tpos] e pos.line X.env = pure false := by rfl) (hw : swappedStores [.Subscript a i tpos] e X.env = pure none := by rfl)
    (h1 : (assignEach [.Subscript a i tpos] X.env).map (·.2) = [assign (.Subscript a i tpos) X.env] := by rfl)
    (ha : ∀ v, assign (.Subscript a i tpos) X.env v = (do
      let ov ← holding [v] (eval a X.env)
      let iv ← holding [v, ov] (eval i X.env)
      standAt tpos
      holding [v, ov, iv] (setItem ov iv v)
      release [v, ov, iv] []) := by intro _; rfl) : JS X (.Assign [.Subscript a i tpos] e pos :: rest) G S D := js_cons fun B σ H g sl =>
  wS_of (ps_asg pe_w (pg_sub pe_w pe_w set_Lf ha) hs1 hw h1) (wE_mono (he B σ H g sl) fun v H1 ⟨B1, w1, g1, r1⟩ => wE_mono (ho B1 σ H1 g1 (sl.mono w1.b)) fun o H2 ⟨B2, w2, g2, r2⟩ => wE_mono (hi B2 σ H2 g2 (sl.mono (w1.b.trans w2.b))) fun iv H3 ⟨B3, w3, g3, r3⟩ => by
    cases (show o = .ref p from r2)
    obtain ⟨hb, xs, e1, e2⟩ := g3.own p _ hs
    have hl := Paired.length e2
    have r1' : Dq X.K B3 v d := dp_mono (w2.b.trans w3.b).rd _ _ r1
    obtain ⟨g', w'⟩ := g3.wrote (o := DLO X.prog X.w p (putG xs k v)) (m' := .dlf (putG kvs k d)) hs ⟨_, upd_same, kr_put r1' (entL_kr e2)⟩
    exact ⟨p, xs, k, rfl, dq_kD r3, e1, by omega, B3, G, _, ((w1.trans g1 w2).trans g2 w3).trans g3 w', g', sl.mono ((w1.b.trans w2.b).trans w3.b), h⟩)
/-- a dict locked while an expression makes a new object -/
theorem jn_lockL {p : Addr} {kvs : List DL} {m : MO} (hs : S p = some (.dlf kvs)) (h : ∀ o u, JN X e G (sset S p (.dlfk o u kvs)) m (sset S p (.dlfk o u kvs))) : JN X e G S m S := fun B σ H g sl => by
  obtain ⟨hb, xs, e1, e2⟩ := g.own p _ hs
  refine wE_of (pe_lock pe_w) ⟨p, DLO X.prog X.w p xs, e1, True.intro, fun od => ?_⟩
  obtain ⟨g', w'⟩ := g.wrote (o := .frz od (DLO X.prog X.w p xs)) (m' := .dlfk od (DLO X.prog X.w p xs) kvs) hs ⟨xs, rfl, upd_same, e2⟩
  refine wE_mono (h od _ B σ _ g' sl) fun v H2 ⟨B2, q, ev, hq, w2, g2⟩ => ?_
  have ne : p ≠ q := fun z => by rw [← z, sset_same] at hq; cases hq
  have hq' : S q = none := by rwa [sset_ne (Ne.symm ne)] at hq
  have hp2 : sset (sset S p (.dlfk od (DLO X.prog X.w p xs) kvs)) q m p = some (.dlfk od (DLO X.prog X.w p xs) kvs) := by rw [sset_ne ne, sset_same]
  obtain ⟨hb2, ys, k0, k1, k2⟩ := g2.own p _ hp2
  obtain ⟨g3, w3⟩ := g2.wrote (o := DLO X.prog X.w p xs) (m' := .dlf kvs) hp2 ⟨ys, by rw [upd_same, k0], k2⟩
  have es : sset (sset (sset S p (.dlfk od (DLO X.prog X.w p xs) kvs)) q m) p (.dlf kvs) = sset S q m := by
    rw [sset_comm (Ne.symm ne), sset_sset, sset_self hs]
  rw [es] at g3 w3
  exact ⟨k1, B2, q, ev, hq', (w'.trans g' w2).trans g2 w3, g3⟩
/-- the locked dict of a name, by its keys -/
theorem ji_keysL {tg : Expr} {p : Addr} {kvs : List DL} {o : Obj} {u : HO} (he : JE X e G S (.o p) S1) (hp : S1 p = some (.dlfk o u kvs)) : JI X tg e G S (kvs.map fun x => kD x.1) (fun S' => S' p = some (.dlfk o u kvs)) S1 := fun B σ H g sl =>
  wI_of (pi_keysL pe_w) (wE_mono (he B σ H g sl) fun v H1 ⟨B1, w1, g1, r1⟩ => by
    have ev : v = .ref p := r1
    subst ev
    obtain ⟨hb, xs, h0, h1, h2⟩ := g1.own p _ hp
    subst h0
    refine ⟨p, o, xs, rfl, h1, B1, w1, g1, fun B2 S2 H2 le ho g2 => ?_⟩
    obtain ⟨_, ys, k0, k1, k2⟩ := g2.own p _ ho
    have hl2 : xs.length = kvs.length := Paired.length h2
    refine ⟨fun i d hd => ?_, fun i hi => ⟨k1, by rw [List.length_map] at hi; omega⟩⟩
    rw [List.getElem?_map] at hd
    obtain ⟨e, he', rfl⟩ := Option.map_eq_some_iff.mp hd
    have hi : i < kvs.length := (List.getElem?_eq_some_iff.mp he').1
    refine ⟨⟨k1, by omega⟩, fun x H' ⟨e1, q, e2, e3⟩ => ?_⟩
    subst e1 e3
    obtain ⟨q', e4, e5, _⟩ := kr_get (entL_kr h2) e2
    rw [he'] at e4; cases e4
    rw [e5]
    exact .same g2 (kVo_dq _))
end
end J

-- JR5
set_option Elab.async false
set_option linter.all false
set_option maxRecDepth 100000
set_option maxHeartbeats 4000000
/-! t[::-1] of a tuple, zip of two tuples, assignments side by side, lists let stand. -/
namespace J
open PySem PySem.Spec PyProof.Rows L2

section
variable {prog : Program} {w : World} {A : Around} {E : Value → Shared → Prop} {s : Shared}
theorem adj_rev (n : Nat) : Builtin.Slice.sliceAdjust none none (-1) (n : Int) = ((n : Int) - 1, -1) := rfl
theorem places_rev (n : Nat) : Builtin.Slice.slicePlaces ((n : Int) - 1) (-1) (-1) = n := by
  unfold Builtin.Slice.slicePlaces
  rw [if_neg (by decide : ¬ ((-1 : Int) > 0))]
  by_cases h : (n : Int) - 1 > -1
  · rw [if_pos h, show (- -1 : Int) = 1 by decide, Int.ediv_one]
    omega
  · rw [if_neg h]
    omega
theorem applied_rev {sl : Addr} {vl vu vs : Value} {n : Nat} {Q : Int × Int × Nat → Shared → Prop} (hs : s.heap.IsSliceOf sl vl vu vs) (pl : IsPart vl none) (pu : IsPart vu none) (ps : IsPart vs (some (-1)))
    (h : Q ((n : Int) - 1, -1, n) s) : wpAny (model prog w) A (Builtin.Slice.sliceApplied (.ref sl) (pure (n : Int))) Q E s := by
  obtain ⟨os, hos, hcs, hds⟩ := id hs
  unfold Builtin.Slice.sliceApplied Builtin.Slice.sliceFields
  refine wpAny_bind (wpAny_bind (wpAny_field hos hds (x := vl) rfl (wpAny_bind (wpAny_field hos hds (x := vu) rfl (wpAny_bind (wpAny_field hos hds (x := vs) rfl (wpAny_pure ?_)))))))
  refine wpAny_bind (HT.slicePart_ ps ?_)
  show wpAny _ _ (if ((-1 : Int) == 0) = true then _ else _) _ _ s
  rw [if_neg (by decide)]
  refine wpAny_bind (HT.slicePart_ pl (wpAny_bind (HT.slicePart_ pu (wpAny_bind (wpAny_pure ?_)))))
  show wpAny _ _ (match Builtin.Slice.sliceAdjust none none (-1) (n : Int) with | (lo, hi) => pure (lo, (-1 : Int), Builtin.Slice.slicePlaces lo hi (-1))) _ _ s
  rw [adj_rev n]
  show wpAny _ _ (pure ((n : Int) - 1, (-1 : Int), Builtin.Slice.slicePlaces ((n : Int) - 1) (-1) (-1))) _ _ s
  rw [places_rev]
  exact wpAny_pure h
theorem pick_rev (items : Array Value) : ((List.range items.size).filterMap fun (k : Nat) => items[((items.size : Int) - 1 + (k : Int) * (-1)).toNat]?).toArray = items.toList.reverse.toArray := by
  have e : (List.range items.size).filterMap (fun (k : Nat) => items[((items.size : Int) - 1 + (k : Int) * (-1)).toNat]?) = ((List.range items.size).map (fun k => items.size - 1 - k)).filterMap (items[·]?) := by
    rw [List.filterMap_map]
    have key : ∀ (l : List Nat), (∀ k ∈ l, k < items.size) → l.filterMap (fun (k : Nat) => items[((items.size : Int) - 1 + (k : Int) * (-1)).toNat]?) = l.filterMap ((fun x => items[x]?) ∘ fun k => items.size - 1 - k) := by
      intro l
      induction l with
      | nil => intro _; rfl
      | cons k l ih =>
        intro hl
        have hk := hl k List.mem_cons_self
        rw [List.filterMap_cons, List.filterMap_cons, ih fun x hx => hl x (List.mem_cons_of_mem _ hx)]
        have ek : ((items.size : Int) - 1 + (k : Int) * (-1)).toNat = items.size - 1 - k := by omega
        rw [ek]
        rfl
    exact key _ fun k hk => List.mem_range.mp hk
  rw [e, PySem.W.krv_range, List.filterMap_reverse, PySem.W.krv_all]
theorem getItem_tuple_rev {t sl : Addr} {items : Array Value} {vl vu vs : Value} {Q : Value → Shared → Prop} (ht : IsTup s.heap t items) (hs : s.heap.IsSliceOf sl vl vu vs) (pl : IsPart vl none) (pu : IsPart vu none) (ps : IsPart vs (some (-1)))
    (h : Q (.ref s.heap.objs.size) { s with heap := s.heap.push { cls := .type "tuple", data := .seq items.toList.reverse.toArray } }) (hsz : items.size ≤ sizeLine) : wpAny (model prog w) A (getItem (.ref t) (.ref sl)) Q E s := by
  have htake : sizeOk (.seq items.toList.reverse.toArray) := by
    show items.toList.reverse.toArray.size ≤ sizeLine
    rw [List.size_toArray, List.length_reverse, Array.length_toList]
    exact hsz
  obtain ⟨os, hos, hcs, hds⟩ := id hs
  have hTs : s.TypeIs (.ref sl) "slice" := ⟨os, hos, hcs⟩
  unfold getItem
  try with_reducible refine wpAny_holding ?_
  first | refine wpAny_bind (wpAny_pure ?_) | skip
  refine wpAny_bind (wpAny_sequenceKey ht.typeIs (by decide) ?_)
  refine wpAny_bind (wpAny_callSpecial?_slot (name := Str.ofString "__getitem__") ht.typeIs PyProof.Rows.slot_tuple_getitem
    (wpAny_call_entry PyProof.Rows.slot_tuple_getitem ht.typeIs entry_tuple_getitem ?_ (args_tuple_getitem _ _)))
  show wpAny _ _ (Builtin.Tuple.tupleItemsOf (.ref t) >>= _) _ _ s
  refine wpAny_bind (tupleItemsOf_ ht ?_)
  refine wpAny_bind (wpAny_typeOf hTs ?_)
  rw [if_pos (by decide)]
  refine wpAny_bind (applied_rev hs pl pu ps ?_)
  have hno : ¬ ((((items.size : Int) - 1) == 0 && (-1 : Int) == 1 && items.size == items.size) = true) := by
    intro q
    rw [Bool.and_eq_true, Bool.and_eq_true] at q
    exact absurd q.1.2 (by decide)
  show wpAny _ _ (if (((items.size : Int) - 1) == 0 && (-1 : Int) == 1 && items.size == items.size) = true then _ else _) _ _ s
  rw [if_neg hno, pick_rev]
  first
    | exact wpAny_bind (m := Builtin.Tuple.tupleExact _) (wpAny_newObj_type (wpAny_pure ⟨_, rfl, wpAny_pure h⟩) htake)
    | exact wpAny_bind (m := Builtin.Tuple.tupleExact _) (wpAny_newObj_type (wpAny_bind (wpAny_pure (wpAny_pure ⟨_, rfl, wpAny_pure h⟩))) htake)
    | exact wpAny_bind (wpAny_bind (m := Builtin.Tuple.tupleExact _) (wpAny_newObj_type (wpAny_pure (wpAny_pure ⟨_, rfl, wpAny_pure h⟩)) htake))
    | exact wpAny_bind (wpAny_bind (m := Builtin.Tuple.tupleExact _) (wpAny_newObj_type (wpAny_pure ⟨_, rfl, wpAny_pure h⟩) htake))
end
def tRevT (K : PySem.W.Frag) (te : TE) : TE := fun σ H Q => te σ H fun x H1 => ∃ a xs, x = .ref a ∧ SqT K H1 a xs ∧ ∀ p, H1 p = none → Q (.ref p) (upd H1 p (.tup xs.reverse))
section
variable {X : Cx} {G G1 : Gm} {S S1 S2 : Sto} {a b e : Expr} {pos : Pos} {rest body : List Stmt} {st : Stmt} {D : DE}
theorem pe_revT {te : TE} {k : Nat} {p1 p2 p3 : Pos} (he : PE X e te) : PE X (.Subscript e (.Slice none none (some (.UnaryOp .USub (.Constant (.int 1) k p1) p2)) p3) pos) (tRevT X.K te) := by
  refine ⟨fun pins s σ H Q I h => ?_⟩
  refine Subscript_ (thn (he.run pins s σ H _ I h) fun v s1 ⟨x, H1, I1, r1, q1⟩ => ?_)
  obtain ⟨a, xs, ex, hx, q⟩ := q1
  subst ex
  cases r1
  have hst : PO X (some (.UnaryOp .USub (.Constant (.int 1) k p1) p2)) (tPart (tUn (rU fun i => .int (-i)) (tC (.int 1)))) := po_some (pe_un un_neg pe_int)
  refine wpAny_Slice (thn (po_none.run pins s1 σ H1 (fun o H2 => o = none ∧ H2 = H1) I1 ⟨rfl, rfl⟩) fun vl s2 ⟨l, H2, I2, pl, el, e2⟩ => ?_)
  subst el e2
  refine thn (po_none.run pins s2 σ H2 (fun o H3 => o = none ∧ H3 = H2) I2 ⟨rfl, rfl⟩) fun vu s3 ⟨u, H3, I3, pu, eu, e3⟩ => ?_
  subst eu e3
  refine thn (hst.run pins s3 σ H3 (fun o H4 => o = some (-1) ∧ H4 = H3) I3 ⟨1, rfl, -1, rfl, rfl, rfl⟩) fun vs s4 ⟨o, H4, I4, ps, eo, e4⟩ => ?_
  subst eo e4
  have I5 : Inv X pins σ H4 { s4 with heap := s4.heap.push { cls := .type "slice", data := .fields #[vl, vu, vs] } } := I4.kept (t' := s4.toks) fun b ob q => Heap.get?_push_of_some _ q
  obtain ⟨its, r, ht, hz⟩ := I5.tuple hx
  have hlen := r.length
  show wpAny (model X.prog X.w) X.A (subscriptTail e (.Slice none none (some (.UnaryOp .USub (.Constant (.int 1) k p1) p2)) p3) (.ref a) (.ref s4.heap.objs.size)) (EP X pins σ Q) X.xe { s4 with heap := s4.heap.push { cls := .type "slice", data := .fields #[vl, vu, vs] } }
  refine tail_any (ops := [.ref a, .ref s4.heap.objs.size]) ht.typeIs PyProof.Rows.slot_tuple_getitem.lookup ?_ (by with_unfolding_all rfl)
  refine getItem_tuple_rev ht (Heap.IsSliceOf.new _ vl vu vs) pl pu ps ?_ (by rw [List.size_toArray]; omega)
  refine ⟨.ref _, _, I5.laid (t' := s4.toks) (o := .tup xs.reverse) (fun b ob q => Heap.get?_push_of_some _ q) (Nat.le_refl _) ?_, rfl, q _ (I5.hok.fresh (Nat.le_refl _))⟩
  exact ⟨by rw [List.length_reverse]; exact hz, _, r.reverse, IsTup.new _ _⟩
theorem je_revT {ds : List PyData} {k : Nat} {p1 p2 p3 : Pos} (he : JE X e G S (.d (.tuple ds)) S1) : JE X (.Subscript e (.Slice none none (some (.UnaryOp .USub (.Constant (.int 1) k p1) p2)) p3) pos) G S (.d (.tuple ds.reverse)) S1 := fun B σ H g sl =>
  wE_of (pe_revT pe_w) (wE_mono (he B σ H g sl) fun v H1 ⟨B1, w1, g1, r1⟩ => by
    obtain ⟨p, us, rfl, k1, k2⟩ := tup_to g1 r1
    exact ⟨p, us, rfl, k1, fun q hq => EQ.comp w1 g1 (.newT g1 hq (dpAll_rev k2))⟩)
/-! ### zip of two tuples -/
theorem zip_get {ds es : List PyData} {i : Nat} {d : PyData} (h : (List.zipWith (fun x y => PyData.tuple [x, y]) ds es)[i]? = some d) : ∃ x y, ds[i]? = some x ∧ es[i]? = some y ∧ d = .tuple [x, y] := by
  rw [List.getElem?_zipWith] at h
  cases e1 : ds[i]? with
  | none => rw [e1] at h; cases h
  | some x =>
    cases e2 : es[i]? with
    | none => rw [e1, e2] at h; cases h
    | some y =>
      rw [e1, e2] at h
      exact ⟨x, y, rfl, rfl, (Option.some.inj h).symm⟩
theorem ji_zip {e2 : Expr} {elts : List Expr} {kk : Nat} {tpos p : Pos} {ds es : List PyData} (hp : PI X (.Tuple elts kk tpos) (.Call (.Name "zip" p) [e, e2] [] pos) (RZ.iZipA X.K (wA X [e, e2]))) (ha : JA X [e, e2] G S [.d (.tuple ds), .d (.tuple es)] S1) :
    JI X (.Tuple elts kk tpos) (.Call (.Name "zip" p) [e, e2] [] pos) G S (List.zipWith (fun x y => .tuple [x, y]) ds es) (fun _ => True) S1 := fun B σ H g sl =>
  wI_of hp (wA_mono (ha B σ H g sl) fun vs H1 ⟨B1, w1, g1, r1⟩ => by
    cases r1 with
    | cons r1 rr => cases rr with
      | cons r2 rr =>
        cases rr
        cases r1 with
        | @tup a1 us1 _ s1 q1 =>
          cases r2 with
          | @tup a2 us2 _ s2 q2 =>
            have l1 := dpAll_len q1
            have l2 := dpAll_len q2
            refine ⟨a1, a2, us1, us2, rfl, .inr ⟨sqt_mono g1.ex s1, sqt_mono g1.ex s2, B1, w1, g1, fun B2 S2 H2 le _ g2 => ?_⟩⟩
            have t1 := sqt_mono g2.ex (sqt_mono le.rd s1)
            have t2 := sqt_mono g2.ex (sqt_mono le.rd s2)
            refine ⟨fun i d hd => ?_, fun i hi => ⟨us1, us2, t1, t2, ?_⟩⟩
            · obtain ⟨x, y, e1, e2, rfl⟩ := zip_get hd
              obtain ⟨u1, h1, h2⟩ := dpAll_get q1 e1
              obtain ⟨u2, h3, h4⟩ := dpAll_get q2 e2
              refine ⟨⟨us1, us2, u1, u2, t1, t2, h1, h3⟩, fun v H' ⟨T, v1, v2, e3, e4, e5, e6, e7⟩ => ?_⟩
              subst e3 e5
              have z1 := e6 us1 t1
              have z2 := e7 us2 t2
              rw [h1] at z1; cases z1
              rw [h3] at z2; cases z2
              exact .newT g2 e4 (.cons (dp_mono le.rd _ _ h2) (.cons (dp_mono le.rd _ _ h4) .nil))
            · rw [List.length_zipWith] at hi
              omega)
/-! ### side by side -/
/-- an argument list, some of it new owned objects -/
def JAX (X : Cx) (es : List Expr) (G : Gm) (S : Sto) (P : List Wv → Sto → Prop) : Prop := ∀ B σ H, Good (wd X) B S H → Sl X.K B σ G → wA X es σ H fun vs H' => ∃ ws S', AQ (wd X) B S H ws S' vs H' ∧ P ws S'
theorem jax_nil {P : List Wv → Sto → Prop} (h : P [] S) : JAX X [] G S P := fun B σ H g sl => wA_of pa_nil ⟨[], S, ⟨B, .refl, g, .nil⟩, h⟩
theorem jax_cons {P : List Wv → Sto → Prop} {es : List Expr} {r : Wv} (ha : JE X e G S r S1) (hr : JAX X es G S1 fun ws S' => P (r :: ws) S') (hs : starEach (e :: es) X.env = (false, eval e X.env) :: starEach es X.env := by rfl) : JAX X (e :: es) G S P := fun B σ H g sl =>
  wA_of (pa_cons pe_w pa_w hs) (wE_mono (ha B σ H g sl) fun v H1 ⟨B1, w1, g1, r1⟩ => wA_mono (hr B1 σ H1 g1 (sl.mono w1.b)) fun vs H2 ⟨ws, S', ⟨B2, w2, g2, r2⟩, p⟩ => ⟨_, S', ⟨B2, w1.trans g1 w2, g2, .cons (r1.mono w2.b) r2⟩, p⟩)
theorem jax_new {P : List Wv → Sto → Prop} {es : List Expr} {m : MO} (ha : JN X e G S m S1) (hr : ∀ p, S1 p = none → JAX X es G (sset S1 p m) fun ws S' => P (.o p :: ws) S') (hs : starEach (e :: es) X.env = (false, eval e X.env) :: starEach es X.env := by rfl) : JAX X (e :: es) G S P := fun B σ H g sl =>
  wA_of (pa_cons pe_w pa_w hs) (wE_mono (ha B σ H g sl) fun v H1 ⟨B1, p, ev, hp, w1, g1⟩ => wA_mono (hr p hp B1 σ H1 g1 (sl.mono w1.b)) fun vs H2 ⟨ws, S', ⟨B2, w2, g2, r2⟩, q⟩ => ⟨_, S', ⟨B2, w1.trans g1 w2, g2, .cons (show Rw X.K B2 v (.o p) from ev) r2⟩, q⟩)
theorem js_par2 {i j : Nat} (hp : PS X st (tPar i j (wA X [a, b]))) (ha : JAX X [a, b] G S fun ws S1 => ∃ w w', ws = [w, w'] ∧ JS X rest ((G.set i (some w)).set j (some w')) S1 D) : JS X (st :: rest) G S D := js_cons fun B σ H g sl =>
  wS_of hp (wA_mono (ha B σ H g sl) fun vs H1 ⟨ws, S1, ⟨B1, w1, g1, r1⟩, w, w', e, h⟩ => by
    subst e
    cases r1 with
    | cons r1 rr => cases rr with
      | cons r2 rr =>
        cases rr
        exact ⟨_, _, rfl, B1, _, S1, w1, g1, ((sl.mono w1.b).set i r1).set j r2, h⟩)
theorem js_par3 {c : Expr} {i j l : Nat} (hp : PS X st (tPar3 i j l (wA X [a, b, c]))) (ha : JAX X [a, b, c] G S fun ws S1 => ∃ w w' w'', ws = [w, w', w''] ∧ JS X rest (((G.set i (some w)).set j (some w')).set l (some w'')) S1 D) : JS X (st :: rest) G S D := js_cons fun B σ H g sl =>
  wS_of hp (wA_mono (ha B σ H g sl) fun vs H1 ⟨ws, S1, ⟨B1, w1, g1, r1⟩, w, w', w'', e, h⟩ => by
    subst e
    cases r1 with
    | cons r1 rr => cases rr with
      | cons r2 rr => cases rr with
        | cons r3 rr =>
          cases rr
          exact ⟨_, _, _, rfl, B1, _, S1, w1, g1, (((sl.mono w1.b).set i r1).set j r2).set l r3, h⟩)
/-! ### a name's own list let stand -/
theorem js_frz {i : Nat} {p : Addr} {ds : List PyData} (hG : G[i]? = some (some (.o p))) (hs : S p = some (.lst ds)) (h : JS X body (G.set i (some (.d (.list ds)))) (sdel S p) D) : JS X body G S D := fun B σ H g sl => by
  obtain ⟨B2, g2, w2, r⟩ := g.freeze hs
  obtain ⟨v, h1, h2⟩ := sl.at_ i _ hG
  have ev : v = .ref p := h2
  subst ev
  have sl2 : Sl X.K B2 σ (G.set i (some (.d (.list ds)))) := by
    have := (sl.mono w2.b).set i (show Rw X.K B2 (.ref p) (.d (.list ds)) from r)
    have e : σ.set i (some (.ref p)) = σ := by
      refine List.ext_getElem? fun k => ?_
      by_cases c : i = k
      · subst c
        rw [List.getElem?_set_self (List.getElem?_eq_some_iff.mp h1).1, h1]
      · rw [List.getElem?_set_ne c]
    rwa [e] at this
  exact wSs_to w2 g2 (h B2 σ H g2 sl2) (fun _ _ z => z) (fun _ _ z => z) (fun _ _ z => z) (fun _ _ z => z)
end
end J

-- JR6
set_option Elab.async false
set_option linter.all false
set_option maxRecDepth 100000
set_option maxHeartbeats 4000000
/-! set(list) of numbers and of pairs of texts; sorted of it. -/
namespace J
open PySem PySem.Spec PyProof.Rows L2

section
variable {P : Program} {w : World} {A : Around} {E : Value → Shared → Prop} {s : Shared}
abbrev freshSet (w : World) : Obj := { cls := .type "set", dict := none, data := .set #[] 0 (.fresh 0 0 (!w.params.followText "set-order")) }
/-- set(list), whatever its loop comes to -/
theorem set_any {l : Addr} {items : Array Value} {Post : Shared → Prop} {Q : Value → Shared → Prop} (hl : s.heap.IsList l items)
    (loop : ∀ R : Result → Shared → Prop, (∀ s', Post s' → R (.ok (.ret .none)) s') →
      codeAny (model P w) A.in1.in1 (.builtin "set.update.loop" ⟨[.ref s.heap.objs.size, .ref (s.heap.push (freshSet w)).objs.size], []⟩) R
        { s with heap := (s.heap.push (freshSet w)).push { cls := .type "list_iterator", data := .fields #[.ref l, .int 0 0] } })
    (h : ∀ s', Post s' → Q (.ref s.heap.objs.size) s') : wpAny (model P w) A (call (.type "set") [.ref l]) Q E s := by
  obtain ⟨c, tl, hmro⟩ := F.called_set.mro
  have hmade := F.called_set.made
  have hsub := F.called_set.sub
  refine wpAny_call (codeAny_of_tree ?_)
  show wpAny _ _ (callAny (.type "set") _) _ _ _
  refine wpAny_pure ⟨Code.quiet_builtin _ (by decide +kernel), codeAny_builtin F.entry_type_call ?_⟩
  rw [Around.under_plain (weight_type_call_type "set" [.ref l] []) rfl]
  have k1 := F.called_set.notType
  have k2 := F.called_set.canCreate
  have k3 := F.typeCall_set_1 (.ref l)
  repeat (any_goals (first | assumption | wp_step))
  refine codeAny_mono (code_set_led1 (.ref l) (E := E) (Q₁ := fun obj s₁ => obj = .ref s.heap.objs.size ∧ s₁ = { s with heap := s.heap.push (freshSet w) }) ⟨rfl, rfl⟩) fun r s₁ hr => ?_
  cases r with
  | error e => exact hr
  | ok fl =>
    cases fl with
    | ret obj =>
      obtain ⟨rfl, rfl⟩ := hr
      have gS : (s.heap.push (freshSet w)).get? s.heap.objs.size = some (freshSet w) := Heap.get?_push_size _ rfl
      have hT : Shared.TypeIs { s with heap := s.heap.push (freshSet w) } (.ref s.heap.objs.size) "set" := ⟨_, gS, rfl⟩
      have k4 := F.called_set.init.lookup
      have k5 := F.called_set.init.bind (.ref s.heap.objs.size)
      repeat (any_goals (first | assumption | wp_step))
      refine codeAny_mono (codeAny_call_builtin (R := wants (fun r s₂ => r = .none ∧ Post s₂) E) F.called_set.init.plain F.entry_set_init (check_set_init_1 hT ?_)) fun r₂ s₂ hr₂ => ?_
      · obtain ⟨⟨ocls, odict, odata, oslots⟩, hol, hcl, nl, hdl⟩ := hl
        simp only at hcl hdl
        subst hcl
        subst hdl
        have gl : (s.heap.push (freshSet w)).get? l = some { cls := .type "list", dict := odict, data := .seq items nl, slots := oslots } := Heap.get?_push_of_some _ hol
        have k6 := F.sub_list_set
        have k7 := F.sub_list_frozenset
        have k8 : (Value.type "list" == Value.type "dict") = false := by decide
        have hl1 : (s.heap.push (freshSet w)).IsList l items := ⟨_, gl, rfl, nl, rfl⟩
        unfold Builtin.«set.__init__» noKeywords Builtin.Frozenset.updateFrom
        generalize hPI : pyIter = PI
        wp_walk
        subst hPI
        refine wpAny_pyIter_list hl1 ?_
        refine wpAny_bind (wpAny_runValue ?_)
        refine loop _ fun s' hp => ?_
        show wpAny _ _ _ _ _ _
        refine wpAny_pure ?_
        show wpAny _ _ (ret Value.none) _ _ _
        exact wpAny_pure ⟨rfl, hp⟩
      · cases r₂ with
        | error e => exact hr₂
        | ok fl₂ =>
          cases fl₂ with
          | ret r =>
            obtain ⟨rfl, hp⟩ := hr₂
            repeat (any_goals (first | assumption | wp_step))
            exact h _ hp
          | _ => exact hr₂.elim
    | _ => exact hr.elim
end
section
variable {X : Cx}
/-! ### numbers -/
def rSetI (K : PySem.W.Frag) (w : World) : List V → Hp → VK → Prop := fun vs H Q => ∃ (l : Addr) (ns : List Int), vs = [V.ref l] ∧ SqL K H l (ns.map V.int) ∧ ns.length < 60 ∧ ∀ p c, H p = none → c ≤ ns.length → Q (.ref p) (upd H p (SetO w p (fun j => decide (j ∈ ns)) c))
theorem cr_setI (hc : X.calm = true) : CallR X (.type "set") (rSetI X.K X.w) := by
  intro pins s σ H vs us Q I r h
  obtain ⟨l, ns, rfl, hs, h60, q⟩ := h
  rw [Vals.ref1 r]
  obtain ⟨its, rv, pl, hz⟩ := I.list hs
  have hl := pl.isList
  have hit : IntsAre its.toArray.toList ns := by simpa using intsAre_of rv
  have hsz : its.toArray.size = ns.length := by rw [List.size_toArray, ← rv.length, List.length_map]
  have hlt : l < s.heap.objs.size := by obtain ⟨_, e, _⟩ := hl; exact Heap.lt_size e
  have sz1 : (s.heap.push (freshSet X.w)).objs.size = s.heap.objs.size + 1 := Heap.size_push ..
  refine set_any (Post := fun s' => ∃ h' tk c, s' = { s with heap := h', toks := tk } ∧ SetR X.w h' s.heap.objs.size (fun j => decide (j ∈ ns)) c ∧ c ≤ ns.length ∧ ∀ b o, s.heap.get? b = some o → h'.get? b = some o) hl (fun R hR => ?_) fun s' ⟨h', tk, c, e, hS, hcl, hk⟩ => ?_
  · have hl1 : (s.heap.push (freshSet X.w)).IsList l its.toArray := hl.push _
    have hh : X.A.in1.in1.in1.handled = none := by simp [I.ok.hd hc]
    refine set_update_ints ((Walks.list hh (s.heap.push (freshSet X.w)).objs.size l (by rw [sz1]; exact Nat.ne_of_lt (Nat.lt_succ_of_lt hlt)) its.toArray).toS) s.heap.objs.size ?_ ns hsz (by unfold scanBound; omega) ?_ (its.toArray.size - 0) 0 _ (by omega) (Nat.zero_le _)
      ⟨⟨_, Heap.get?_push_size _ rfl, rfl, rfl⟩, hl1.push _⟩ ⟨0, Nat.le_refl 0, setR_new_at (Heap.get?_push_of_some _ (Heap.get?_push_size _ rfl))⟩ fun s' c hm hc' hS => hR _ ?_
    · rw [sz1]
      simp only [List.mem_cons, List.mem_singleton, List.not_mem_nil, or_false, not_or]
      exact ⟨Nat.ne_of_lt (Nat.lt_succ_self _), Nat.ne_of_gt hlt⟩
    · intro i v hv
      have hi : i < ns.length := by rw [← hsz]; exact (Array.getElem?_eq_some_iff.mp hv).1
      obtain ⟨t, e⟩ := PyProof.Rows.IntsAre.int_at hit i v (by rw [Array.getElem?_toList]; exact hv)
      refine ⟨ns[i], t, List.getElem?_eq_getElem hi, ?_⟩
      rw [e, List.getD_eq_getElem?_getD, List.getElem?_eq_getElem hi] <;> rfl
    · obtain ⟨h', g2, d', tk', os'⟩ := s'
      have eg : g2 = s.gens := hm.gens
      have ed : d' = s.drawn := hm.drawn
      have eo : os' = s.os := hm.os
      subst eg ed eo
      refine ⟨h', tk', c, rfl, hS, by rw [← hsz]; exact hc', fun b o e => ?_⟩
      have hb0 : b < s.heap.objs.size := Heap.lt_size e
      refine hm.heap b o ?_ (Heap.get?_push_of_some _ (Heap.get?_push_of_some _ e))
      simp only [List.mem_cons, List.mem_singleton, List.not_mem_nil, or_false, not_or]
      exact ⟨Nat.ne_of_lt hb0, by rw [sz1]; exact Nat.ne_of_lt (Nat.lt_succ_of_lt hb0)⟩
  · subst e
    exact ⟨.ref s.heap.objs.size, upd H s.heap.objs.size (SetO X.w s.heap.objs.size (fun j => decide (j ∈ ns)) c), I.laid (t' := tk) hk (Nat.le_refl _) (setO_new hS), rfl, q _ c (I.hok.fresh (Nat.le_refl _)) hcl⟩
end
end J

-- JR7
set_option Elab.async false
set_option linter.all false
set_option maxRecDepth 100000
set_option maxHeartbeats 4000000
/-! set(list) of pairs of texts, four at the most; sorted of it. -/
namespace J
open PySem PySem.Spec PyProof.Rows L2

abbrev TP := Str × Str
abbrev pk (q : TP) : NestedKey := .tup [.text q.1, .text q.2]
abbrev ph (w : World) (q : TP) : Int := (pk q).hash w
abbrev IsP (h : Heap) (q : TP) (a : Addr) : Prop := NestedIs h (pk q) (.ref a)
theorem pk_depth (q : TP) : (pk q).depth ≤ 8 := (show (1 : Nat) ≤ 8 by decide)
theorem pk_inj {q r : TP} (h : pk q = pk r) : q = r := by
  obtain ⟨a, b⟩ := q
  obtain ⟨c, d⟩ := r
  injection h with h
  injection h with h1 h2
  injection h2 with h2 _
  injection h1 with h1
  injection h2 with h2
  simp only at h1 h2
  rw [h1, h2]
theorem isP_tuple {h : Heap} {q : TP} {a : Addr} (x : IsP h q a) : ∃ (o : Obj) (vs : Array Value) (n : Nat) (t1 t2 : Tok), h.get? a = some o ∧ o.cls = .type "tuple" ∧ o.data = .seq vs n ∧ vs.toList = [.str q.1 t1, .str q.2 t2] := by
  cases x with
  | @tup _ o vs n _ h1 h2 h3 h4 =>
    generalize e : vs.toList = us at h4
    cases h4 with
    | cons k1 k2 => cases k2 with
      | cons k2 k3 =>
        cases k3
        cases k1 with
        | text _ t1 => cases k2 with
          | text _ t2 => exact ⟨o, vs, n, t1, t2, h1, h2, h3, e⟩
theorem isP_keep {h h' : Heap} {q : TP} {a : Addr} (x : IsP h q a) (k : ∀ c o, h.get? c = some o → h'.get? c = some o) : IsP h' q a := NestedIs.at (fun b o _ _ e _ => k b o e) _ _ x
theorem isP_same {h h' : Heap} {q : TP} {b a : Addr} {o : Obj} {es : Array (Int × Value)} {ep : Nat} {t : SetTable} (x : IsP h q b) (ho : h.get? a = some o) (hd : o.data = .set es ep t) (hs : Heap.SameBut a h h') : IsP h' q b :=
  NestedIs.at (fun c o' vs n e d => (hs.2 c (fun z => by rw [z, ho] at e; cases e; rw [hd] at d; cases d)).trans e) _ _ x
section
variable {P : Program} {w : World} {A : Around} {E : Value → Shared → Prop} {s : Shared}
theorem ofAClass_p {q : TP} {b : Addr} {Q : Bool → Shared → Prop} (hk : IsP s.heap q b) (h : Q false s) : wpAny (model P w) A (ofAClassStatement 8 (.ref b)) Q E s := by
  obtain ⟨o, vs, n, t1, t2, ho, hc, hd, hv⟩ := isP_tuple hk
  have hT : s.TypeIs (.ref b) "tuple" := ⟨o, ho, hc⟩
  unfold ofAClassStatement
  refine wpAny_bind (wpAny_typeOf hT ?_)
  dsimp only
  have e : (("tuple" : String) == "tuple") = true := by decide
  simp only [e, if_true, Bool.not_true, Bool.false_eq_true, if_false]
  try refine wpAny_bind (wpAny_pure ?_)
  try simp only [Bool.not_true, Bool.false_eq_true, if_false]
  show wpAny _ _ (seqItems? (.ref b) >>= _) _ _ s
  refine wpAny_bind (wpAny_seqItems ho hd ?_)
  dsimp only
  refine wpAny_bind ?_
  show wpAny _ _ (forIn vs _ _) _ _ s
  rw [← Array.forIn_toList, hv]
  refine wpAny_forIn_list _ (fun rest r s' => r.1 = none ∧ s' = s ∧ ∀ v ∈ rest, ∃ x t, v = Value.str x t) _ ?_ ?_ _ _ ⟨rfl, rfl, fun v hv => ?_⟩
  · rintro v rest r s' ⟨hr, rfl, hall⟩
    obtain ⟨x, t, rfl⟩ := hall v List.mem_cons_self
    show wpAny _ _ (pure false >>= _) _ _ _
    refine wpAny_bind (wpAny_pure ?_)
    simp only [Bool.false_eq_true, if_false]
    exact wpAny_pure ⟨rfl, rfl, fun u hu' => hall u (List.mem_cons_of_mem _ hu')⟩
  · rintro ⟨r1, r2⟩ s' ⟨hr, rfl, _⟩
    simp only at hr
    subst hr
    exact wpAny_pure h
  · rcases List.mem_cons.mp hv with rfl | hv
    · exact ⟨_, _, rfl⟩
    · rw [List.mem_singleton.mp hv]; exact ⟨_, _, rfl⟩
theorem hashBy_p {q : TP} {b : Addr} {Q : Bool → Shared → Prop} (hk : IsP s.heap q b) (h : Q false s) : wpAny (model P w) A (hashByValue 8 (.ref b)) Q E s := by
  obtain ⟨o, vs, n, t1, t2, ho, hc, hd, hv⟩ := isP_tuple hk
  have hT : s.TypeIs (.ref b) "tuple" := ⟨o, ho, hc⟩
  unfold hashByValue
  refine wpAny_bind (wpAny_specialOf hT F.slot_tuple_hash.lookup ?_)
  show wpAny _ _ (seqItems? (.ref b) >>= _) _ _ s
  refine wpAny_bind (wpAny_seqItems ho hd ?_)
  refine wpAny_bind ?_
  show wpAny _ _ (forIn vs _ _) _ _ s
  rw [← Array.forIn_toList, hv, List.forIn_cons]
  show wpAny _ _ ((pure false >>= _) >>= _) _ _ _
  refine wpAny_bind (wpAny_bind (wpAny_pure ?_))
  simp only [Bool.not_false, if_true]
  refine wpAny_pure ?_
  show wpAny _ _ (pure (some false, ())) _ _ _
  refine wpAny_pure ?_
  show wpAny _ _ (pure false) _ _ _
  exact wpAny_pure h
theorem quiet_p {q : TP} {b : Addr} {Q : Bool → Shared → Prop} (hk : IsP s.heap q b) (h : Q true s) : wpAny (model P w) A (eqIsQuiet 8 (.ref b)) Q E s := quiet_key (pk q) _ 8 s hk (pk_depth q) A E Q h
theorem seen_p {q : TP} {b : Addr} {Q : Bool → Shared → Prop} (hk : IsP s.heap q b) {ys : List Value} (hy : ∀ y ∈ ys, ∃ r c, y = Value.ref c ∧ IsP s.heap r c) (h : Q false s) : wpAny (model P w) A (searchCouldBeSeen (.ref b) ys) Q E s := by
  unfold searchCouldBeSeen
  refine wpAny_bind ?_
  refine wpAny_forIn_list _ (fun rest r s' => r.1 = none ∧ s' = s ∧ ∀ y ∈ rest, ∃ k' c, y = Value.ref c ∧ IsP s.heap k' c) _ ?_ ?_ _ _ ⟨rfl, rfl, hy⟩
  · rintro v rest r s' ⟨hr, rfl, hall⟩
    obtain ⟨k', c, rfl, hc⟩ := hall v List.mem_cons_self
    have rest' : ∀ y ∈ rest, ∃ k' c, y = Value.ref c ∧ IsP s'.heap k' c := fun u hu' => hall u (List.mem_cons_of_mem _ hu')
    dsimp only
    by_cases hv : (b == c || (carriedByValue (.ref b) && carriedByValue (.ref c))) = true
    · exact wp_if_pos hv (wpAny_pure ⟨rfl, rfl, rest'⟩)
    · refine wp_if_neg hv (wpAny_bind (quiet_p hk ?_))
      simp only [Bool.not_true, Bool.false_eq_true, if_false]
      refine wpAny_bind (quiet_p hc ?_)
      simp only [Bool.not_true, Bool.false_eq_true, if_false]
      refine wpAny_bind (ofAClass_p hk ?_)
      simp only [Bool.false_eq_true, if_false]
      refine wpAny_bind (ofAClass_p hc ?_)
      simp only [Bool.false_eq_true, if_false]
      exact wpAny_pure ⟨rfl, rfl, rest'⟩
  · rintro ⟨r1, r2⟩ s' ⟨hr, rfl, _⟩
    simp only at hr
    subst hr
    exact wpAny_pure h
/-! ### the set -/
abbrev PL := List (Addr × TP)
def rowsP (hf : TP → Int) (L : PL) : List (Int × Value) := L.map fun p => (hf p.2, Value.ref p.1)
structure SP0 (hf : TP → Int) (w : World) (h : Heap) (a : Addr) (L : PL) (es : Array (Int × Value)) (ep : Nat) (t : SetTable) : Prop where
  ob : ∃ o, h.get? a = some o ∧ o.ExactSet ∧ o.data = .set es ep t
  rows : es.toList = rowsP hf L
  tab : TabOk t (L.map fun p => hf p.2)
  nd : (L.map (·.2)).Nodup
  led : w.params.followText "set-order" = true ∨ t.led = true
  m7 : t.mask = 7
  few : L.length ≤ 4
structure SPr (hf : TP → Int) (w : World) (h : Heap) (a : Addr) (L : PL) (es : Array (Int × Value)) (ep : Nat) (t : SetTable) : Prop extends SP0 hf w h a L es ep t where
  tup : ∀ p ∈ L, IsP h p.2 p.1
variable {hf : TP → Int} {a : Addr} {L : PL} {es : Array (Int × Value)} {ep : Nat} {t : SetTable}
theorem SP0.size {h : Heap} (R : SP0 hf w h a L es ep t) : es.size = L.length := by
  have h := congrArg List.length R.rows
  unfold rowsP at h
  rw [Array.length_toList, List.length_map] at h
  exact h
theorem SP0.fits {h : Heap} (R : SP0 hf w h a L es ep t) : t.fits es.size = true := by
  have h1 := R.tab.sz
  rw [List.length_map] at h1
  have h2 := R.size
  have h3 := R.few
  have h4 := R.m7
  unfold SetTable.fits SetTable.fill
  rw [R.tab.dm, Bool.and_eq_true, beq_iff_eq, decide_eq_true_eq]
  show t.place.size = es.size ∧ t.place.size + 0 ≤ t.mask
  omega
theorem SP0.entry {h : Heap} (R : SP0 hf w h a L es ep t) {i : Nat} {p : Addr × TP} (h : L[i]? = some p) : es[i]? = some (hf p.2, Value.ref p.1) := by
  rw [← Array.getElem?_toList, R.rows]
  unfold rowsP
  rw [List.getElem?_map, h] <;> rfl
theorem SP0.gw {h : Heap} (R : SP0 hf w h a L es ep t) : ¬ t.gaveWay = true := by
  unfold SetTable.gaveWay
  rw [mask_odd R.tab.mok]
  decide
/-- the way of the hash hk -/
abbrev wayP (t : SetTable) (k : Int) (c : Nat) : SetTable.Probe := nth t.mask (runAt t.mask (SetTable.bits k % (t.mask + 1)) (SetTable.bits k)) c
theorem wayP_dummy (t : SetTable) (k : Int) (c : Nat) : (wayP t k c).dummy = none := by
  have key : ∀ (n : Nat) (p : SetTable.Probe), p.dummy = none → (nth t.mask p n).dummy = none := by
    intro n
    induction n with
    | zero => exact fun p h => h
    | succ n ih =>
      intro p h
      refine ih (adv t.mask p) ?_
      unfold adv
      split <;> exact h
  exact key c _ rfl
theorem find_p (R : SPr hf w s.heap a L es ep t) {x : Addr} {q : TP} (hx : IsP s.heap q x) (hu : A.units + 8 < cLine) {K : Nat} (hKf : K < 10 * SetTable.turns t.mask)
    (hK : way t.mask (hf q) K ∉ t.place.toList) (hKb : ∀ c, c < K → way t.mask (hf q) c ∈ t.place.toList) {Q : SetFound → Shared → Prop}
    (hin : q ∈ L.map (·.2) → Q (.there none) s) (hout : q ∉ L.map (·.2) → Q (.free (way t.mask (hf q) K) false) s) :
    ∀ (f c : Nat) (stand : Option SetTable.Probe), stand.getD (t.probeStart (hf q)) = wayP t (hf q) c → c ≤ K → K - c < f →
      (∀ (i : Nat) p, L[i]? = some p → p.2 = q → ∃ c', c ≤ c' ∧ c' < K ∧ t.place.toList[i]? = some (way t.mask (hf q) c')) →
      wpAny (model P w) A (setSearchFrom a (.ref x) (hf q) true f stand) Q E s := by
  intro f
  induction f with
  | zero => intro c stand _ _ hlt _; exact absurd hlt (Nat.not_lt_zero _)
  | succ f ih =>
    intro c stand hst hc hlt hre
    obtain ⟨o, ho, hex, hd⟩ := R.ob
    rw [setSearchFrom_succ]
    refine wpAny_bind (wpAny_setState_of ho hd R.fits ?_)
    dsimp only
    refine wp_if_neg R.gw ?_
    try refine wpAny_bind (wpAny_pure ?_)
    have sh : ∀ n, nth t.mask (wayP t (hf q) c) n = wayP t (hf q) (c + n) := fun n => (nth_add t.mask c _ n).symm
    have e1 : ∀ n, (nth t.mask (wayP t (hf q) c) n).j = way t.mask (hf q) (c + n) := fun n => congrArg SetTable.Probe.j (sh n)
    have hashAt : ∀ (i : Nat) p, L[i]? = some p → (fun i => (es[i]?.map (·.1)).getD 0) i = hf p.2 := fun i p hp => by
      show (es[i]?.map (·.1)).getD 0 = _
      rw [R.entry hp] <;> rfl
    rcases go_spec t R.tab.ris R.tab.dm (fun i => (es[i]?.map (·.1)).getD 0) (hf q) (10 * SetTable.turns t.mask) (K - c) _ (wayP_dummy t _ c) (by omega)
      (fun n hn => by rw [e1]; exact hKb (c + n) (by omega)) (by rw [e1, show c + (K - c) = K by omega]; exact hK) with ⟨n, i, hn, hi, hh, hno, hpr⟩ | ⟨hno, hpr⟩
    · have hpr' : t.probe (fun i => (es[i]?.map (·.1)).getD 0) (hf q) (stand.getD (t.probeStart (hf q))) = some (.candidate (way t.mask (hf q) (c + n)) i (wayP t (hf q) (c + (n + 1)))) := by
        rw [hst, ← e1, ← sh]
        exact hpr
      rw [hpr']
      dsimp only
      rw [e1] at hi
      have hil : i < L.length := by
        have h1 : i < t.place.toList.length := (List.getElem?_eq_some_iff.mp hi).1
        have h2 := R.tab.sz
        rw [List.length_map] at h2
        rw [Array.length_toList] at h1
        omega
      have hp : L[i]? = some L[i] := List.getElem?_eq_getElem hil
      generalize L[i] = p at hp
      have hmem : p ∈ L := List.mem_of_getElem? hp
      have hpt := R.tup p hmem
      have rest : wpAny (model P w) A (searchRest a (.ref x) (hf q) true f es t (way t.mask (hf q) (c + n)) i (wayP t (hf q) (c + (n + 1)))) Q E s := by
        unfold searchRest
        rw [R.entry hp]
        dsimp only
        refine wpAny_bind (wpAny_holding ((nestedKind P w).eqBool (x := pk p.2) (y := pk q) hu ⟨hpt, pk_depth _⟩ ⟨hx, pk_depth _⟩ ?_))
        refine wpAny_bind (wpAny_setState_of ho hd R.fits ?_)
        dsimp only
        by_cases hkk : p.2 = q
        · refine wp_if_pos (by rw [hkk]; simp) ?_
          exact wpAny_pure (hin (List.mem_map.mpr ⟨p, hmem, hkk⟩))
        · have hne : ¬ pk p.2 = pk q := fun z => hkk (pk_inj z)
          refine wp_if_neg (by rw [decide_eq_false hne]; simp) ?_
          try refine wpAny_bind (wpAny_pure ?_)
          rw [sameMem]
          dsimp only
          have hsl : t.slot (way t.mask (hf q) (c + n)) = .live i := slot_live R.tab.ris hi
          simp only [if_true, hsl, R.entry hp]
          refine wpAny_bind (wpAny_isSame_ref_self (wpAny_bind (wpAny_pure ?_)))
          simp only [if_true]
          refine wp_if_neg (by rw [decide_eq_false hne]; simp) ?_
          refine ih (c + (n + 1)) _ rfl (by omega) (by omega) fun i0 p0 h0 hk0 => ?_
          obtain ⟨c', a1, a2, a3⟩ := hre i0 p0 h0 hk0
          refine ⟨c', ?_, a2, a3⟩
          rcases Nat.lt_trichotomy c' (c + n) with z | z | z
          · exfalso
            refine hno (c' - c) i0 (by omega) (by rw [e1, show c + (c' - c) = c' by omega]; exact a3) ?_
            exact (hashAt i0 p0 h0).trans (congrArg hf hk0)
          · exfalso
            rw [z] at a3
            have s0 := slot_live R.tab.ris a3
            rw [hsl] at s0
            injection s0 with s0
            rw [← s0, hp] at h0
            exact hkk ((congrArg Prod.snd (Option.some.inj h0)).trans hk0)
          · omega
      by_cases hl : t.led = true
      · refine wp_if_neg (by simp [hl]) ?_
        try refine wpAny_bind (wpAny_pure ?_)
        exact rest
      · refine wp_if_pos (by simp [hl]) (wpAny_bind (seen_p hx (fun y hy => ?_) ?_))
        · obtain ⟨e, he, ee⟩ := List.mem_map.mp hy
          have he1 : e ∈ es ∧ e.1 = hf q := by simpa using he
          have he2 : e ∈ es.toList := by simpa using he1.1
          rw [R.rows] at he2
          obtain ⟨p2, hp2, e2⟩ := List.mem_map.mp he2
          exact ⟨p2.2, p2.1, by rw [← ee, ← e2], R.tup p2 hp2⟩
        · refine wp_if_neg (by decide) ?_
          try refine wpAny_bind (wpAny_pure ?_)
          exact rest
    · have hpr' : t.probe (fun i => (es[i]?.map (·.1)).getD 0) (hf q) (stand.getD (t.probeStart (hf q))) = some (.empty (way t.mask (hf q) K) none) := by
        have e2 : way t.mask (hf q) K = (nth t.mask (wayP t (hf q) c) (K - c)).j := by
          rw [e1, show c + (K - c) = K by omega]
        rw [hst, e2]
        exact hpr
      rw [hpr']
      dsimp only
      refine wpAny_pure (hout fun hm => ?_)
      obtain ⟨p0, h0, hk0⟩ := List.mem_map.mp hm
      obtain ⟨i0, hi0, e0⟩ := List.getElem_of_mem h0
      have h00 : L[i0]? = some p0 := by rw [List.getElem?_eq_getElem hi0, e0]
      obtain ⟨c', a1, a2, a3⟩ := hre i0 p0 h00 hk0
      refine hno (c' - c) i0 (by omega) (by rw [e1, show c + (c' - c) = c' by omega]; exact a3) ?_
      exact (hashAt i0 p0 h00).trans (congrArg hf hk0)
/-- one is added -/
theorem add_p (R : SPr (ph w) w s.heap a L es ep t) {x : Addr} {q : TP} (hx : IsP s.heap q x) (hu : A.units + 8 < cLine) (hfew : L.length + 1 ≤ 4) {Q : Bool → Shared → Prop}
    (hQ : ∀ b h' L' es' ep' t', Heap.SameBut a s.heap h' → SPr (ph w) w h' a L' es' ep' t' → (q ∈ L.map (·.2) → L' = L) → (q ∉ L.map (·.2) → L'.Perm ((x, q) :: L)) → Q b { s with heap := h' }) :
    wpAny (model P w) A (setAddHashed a (.ref x) (ph w q)) Q E s := by
  obtain ⟨o, ho, hex, hd⟩ := R.ob
  have hsl := R.size
  have hm7 := R.m7
  unfold setAddHashed
  refine wpAny_holding ?_
  rw [show (100000 : Nat) = 99999 + 1 from rfl, setAddHashedIn_succ]
  refine wpAny_bind (wpAny_setState_of ho hd R.fits ?_)
  dsimp only
  refine wp_if_neg (by simp [byScan, Value.scannable]) ?_
  try refine wpAny_bind (wpAny_pure ?_)
  obtain ⟨K, hKf, hK, hKb⟩ := R.tab.first (by rw [List.length_map]; omega) (ph w q)
  have hbig : 10 * SetTable.turns t.mask ≤ 100000 := by
    unfold SetTable.turns
    omega
  unfold setSearch
  refine wpAny_bind (find_p R hx hu hKf hK hKb (fun hm => ?_) (fun hm => ?_) 100000 0 none rfl (Nat.zero_le _) (by omega) fun i p hp hk => ?_)
  · dsimp only
    exact wpAny_pure (hQ false s.heap L es ep t (Heap.SameBut.refl a s.heap) R (fun _ => rfl) fun z => absurd hm z)
  · dsimp only
    refine wpAny_bind (wpAny_setState_of ho hd R.fits ?_)
    dsimp only
    obtain ⟨q1, q2, q3, q4, q5, q6, q7, q8, q9⟩ := R.tab.put hK hKb
    generalize hpt : t.put (way t.mask (ph w q) K) = pt at q1 q3 q4 q5 q6 q7 q8 q9 ⊢
    obtain ⟨t1, p⟩ := pt
    dsimp only at q1 q3 q4 q5 q6 q7 q8 q9 ⊢
    subst q1
    have hin : (SetTable.insertAt es (SetTable.below t.place (way t.mask (ph w q) K)) (ph w q, Value.ref x)).toList = rowsP (ph w) (L.take (SetTable.below t.place (way t.mask (ph w q) K)) ++ (x, q) :: L.drop (SetTable.below t.place (way t.mask (ph w q) K))) := by
      rw [SetTable.toList_insertAt, R.rows]
      unfold rowsP
      rw [List.map_append, List.map_cons, List.map_take, List.map_drop]
    generalize hpp : SetTable.below t.place (way t.mask (ph w q) K) = p at q2 q3 hin ⊢
    have pm := put_perm L p (x, q)
    have hlen : (L.take p ++ (x, q) :: L.drop p).length = L.length + 1 := pm.length_eq
    have hhs : (L.take p ++ (x, q) :: L.drop p).map (fun p => ph w p.2) = (L.map fun p => ph w p.2).take p ++ ph w q :: (L.map fun p => ph w p.2).drop p := by
      rw [List.map_append, List.map_cons, List.map_take, List.map_drop]
    rw [← hhs] at q3
    have nd1 : ((L.take p ++ (x, q) :: L.drop p).map (·.2)).Nodup := by
      refine (pm.map (·.2)).nodup_iff.mpr ?_
      rw [List.map_cons]
      exact List.nodup_cons.mpr ⟨hm, R.nd⟩
    have hes : (SetTable.insertAt es p (ph w q, Value.ref x)).size = L.length + 1 := by
      have h := congrArg List.length hin
      unfold rowsP at h
      rw [Array.length_toList, List.length_map, hlen] at h
      exact h
    generalize SetTable.insertAt es p (ph w q, Value.ref x) = es1 at hin hes ⊢
    generalize L.take p ++ (x, q) :: L.drop p = L1 at pm hlen q3 nd1 hin
    have fin : ∀ t2 : SetTable, TabOk t2 (L1.map fun p => ph w p.2) → t2.mask = 7 → (t2.led = t.led) → t2.fill = L.length + 1 →
        wpAny (model P w) A (do storeSet a es1 t2; (if (!false && t2.tooFull) = true then (do setRelay a (SetTable.grown (es.size + 1)); pure true) else pure true)) Q E s := fun t2 T2 m2 l2 f2 => by
      refine wpAny_bind (wpAny_storeSet_of ho hd ?_ (by rw [hes, sizeLine_eq]; omega))
      have sb : Heap.SameBut a s.heap (s.heap.update a (Obj.putSet es1 t2)) := Heap.SameBut.update ..
      have ho1 := store_at (es' := es1) (t' := t2) ho hd
      generalize s.heap.update a (Obj.putSet es1 t2) = h1 at sb ho1 ⊢
      have tup1 : ∀ p ∈ L1, IsP h1 p.2 p.1 := fun p hp => by
        rcases List.mem_cons.mp (pm.mem_iff.mp hp) with e | hp
        · rw [e]; exact isP_same hx ho hd sb
        · exact isP_same (R.tup p hp) ho hd sb
      have hf : t2.tooFull = false := by
        unfold SetTable.tooFull
        rw [f2, m2]
        exact decide_eq_false (by omega)
      rw [hf]
      refine wpAny_pure (hQ true h1 L1 es1 (ep + 1) t2 sb ⟨⟨⟨_, ho1, ⟨hex.1, hex.2.1, hex.2.2⟩, rfl⟩, hin, T2, nd1, by rw [l2]; exact R.led, m2, by rw [hlen]; exact hfew⟩, tup1⟩ (fun z => absurd z hm) fun _ => pm)
    have f9 : t1.fill = L.length + 1 := by rw [q9, List.length_map]
    by_cases hpl : t1.plain = true
    · first
        | (refine wpAny_bind ?_; refine wp_if_pos hpl ?_; refine hashBy_p hx ?_)
        | refine wp_if_pos hpl (wpAny_bind (hashBy_p hx ?_))
      simp only [Bool.false_eq_true, if_false]
      exact fin { t1 with plain := false } ⟨q3.ris, q3.dm, q3.sz, q3.mok, q3.bd, q3.reach⟩ (by show t1.mask = 7; rw [q4, hm7]) q5 f9
    · first
        | (refine wpAny_bind ?_; refine wp_if_neg hpl ?_; refine wpAny_pure ?_)
        | refine wp_if_neg hpl (wpAny_bind (wpAny_pure ?_))
      simp only [if_true]
      exact fin t1 q3 (by rw [q4, hm7]) q5 f9
  · have hi : (L.map fun p => ph w p.2)[i]? = some (ph w q) := by rw [List.getElem?_map, hp, ← hk] <;> rfl
    have hil : i < t.place.toList.length := by
      have h1 : i < L.length := (List.getElem?_eq_some_iff.mp hp).1
      have h2 := R.tab.sz
      rw [List.length_map] at h2
      rw [Array.length_toList]
      omega
    have hj := List.getElem?_eq_getElem hil
    obtain ⟨c, hc, e⟩ := R.tab.before hK hi hj
    exact ⟨c, Nat.zero_le _, hc, by rw [hj, e]⟩
/-! ### what is got of a list -/
structure GotP (ks : PL) (i : Nat) (L : PL) : Prop where
  sub : ∀ p ∈ L, p ∈ ks.take i
  all : ∀ p ∈ ks.take i, p.2 ∈ L.map (·.2)
  len : L.length ≤ i
theorem GotP.zero (ks : PL) : GotP ks 0 [] := ⟨fun p h => (by cases h), fun p h => (by simp at h), Nat.le_refl _⟩
theorem GotP.same {ks L : PL} {i : Nat} {x : Addr × TP} (g : GotP ks i L) (h : ks[i]? = some x) (hm : x.2 ∈ L.map (·.2)) : GotP ks (i + 1) L := by
  refine ⟨fun p hp => ?_, fun p hp => ?_, Nat.le_succ_of_le g.len⟩
  · rw [take_next h]
    exact List.mem_append_left _ (g.sub p hp)
  · rw [take_next h] at hp
    rcases List.mem_append.mp hp with z | z
    · exact g.all p z
    · rw [List.mem_singleton.mp z]; exact hm
theorem GotP.more {ks L L' : PL} {i : Nat} {x : Addr × TP} (g : GotP ks i L) (h : ks[i]? = some x) (pm : L'.Perm (x :: L)) : GotP ks (i + 1) L' := by
  refine ⟨fun p hp => ?_, fun p hp => ?_, ?_⟩
  · rw [take_next h]
    rcases List.mem_cons.mp (pm.mem_iff.mp hp) with e | z
    · rw [e]; exact List.mem_append_right _ (List.mem_singleton.mpr rfl)
    · exact List.mem_append_left _ (g.sub p z)
  · rw [(pm.map (·.2)).mem_iff, List.map_cons]
    rw [take_next h] at hp
    rcases List.mem_append.mp hp with z | z
    · exact List.mem_cons_of_mem _ (g.all p z)
    · rw [List.mem_singleton.mp z]; exact List.mem_cons_self
  · rw [pm.length_eq, List.length_cons]
    exact Nat.succ_le_succ g.len
theorem SP0.keep {h h' : Heap} {a : Addr} (R : SP0 hf w h a L es ep t) (ha : ∀ o, h.get? a = some o → h'.get? a = some o) : SP0 hf w h' a L es ep t := by
  obtain ⟨o, ho, r⟩ := R.ob
  exact ⟨⟨o, ha o ho, r⟩, R.rows, R.tab, R.nd, R.led, R.m7, R.few⟩
theorem sp0_fresh {h : Heap} {a : Addr} (ho : h.get? a = some (freshSet w)) : SP0 hf w h a [] #[] 0 (.fresh 0 0 (!w.params.followText "set-order")) where
  ob := ⟨_, ho, ⟨rfl, rfl, rfl⟩, rfl⟩
  rows := rfl
  tab := ⟨List.Pairwise.nil, rfl, rfl, .inl rfl, fun x hx => (by cases hx), fun i h j hi => (by simp at hi)⟩
  nd := List.nodup_nil
  led := by
    show _ ∨ (!w.params.followText "set-order") = true
    cases w.params.followText "set-order"
    · exact .inr rfl
    · exact .inl rfl
  m7 := rfl
  few := Nat.zero_le _
/-- set.update's loop -/
theorem loop_p {I : Addr} {fp wr : List Addr} {G : Array GenState → Array GenState → Prop} {n : Nat} {Pv : Nat → Value → Prop} {St : Nat → Shared → Prop} {R : Result → Shared → Prop}
    (W : WalksS P w A.in1 I fp wr G n Pv St) (S : Addr) (hSf : S ∉ fp) (ks : PL) (hn : n = ks.length) (hfew : ks.length ≤ 4) (hval : ∀ i v, Pv i v → ∃ p, ks[i]? = some p ∧ v = .ref p.1)
    (h0 : Heap) (hk : ∀ p ∈ ks, IsP h0 p.2 p.1) (hS0 : h0.get? S = none) (hw0 : ∀ b ∈ wr, h0.get? b = none) (hu : A.in1.units + 8 < cLine) :
    ∀ (k i : Nat) (s : Shared), n - i = k → i ≤ n → St i s → (∀ b o, h0.get? b = some o → s.heap.get? b = some o) → (∃ L es ep t, SP0 (ph w) w s.heap S L es ep t ∧ GotP ks i L) →
      (∀ s' L es ep t, Moved (S :: wr) G s s' → SP0 (ph w) w s'.heap S L es ep t → GotP ks n L → (∀ b o, h0.get? b = some o → s'.heap.get? b = some o) → R (.ok (.ret .none)) s') →
      codeAny (model P w) A (.builtin "set.update.loop" ⟨[.ref S, .ref I], []⟩) R s := by
  have hSw : S ∉ wr := fun h => hSf (W.sub _ h)
  have hsub : ∀ b ∈ wr, b ∈ S :: wr := fun b hb => List.mem_cons_of_mem _ hb
  have keepM : ∀ {s s' : Shared}, Moved wr G s s' → (∀ b o, h0.get? b = some o → s.heap.get? b = some o) → ∀ b o, h0.get? b = some o → s'.heap.get? b = some o := fun hm hkp b o e =>
    hm.heap b o (fun hb => by rw [hw0 b hb] at e; cases e) (hkp b o e)
  intro k
  induction k with
  | zero =>
    intro i s hk' hi hst hkp ⟨L, es, ep, t, hS, g⟩ hR
    have hin : i = n := by omega
    subst hin
    refine codeAny_builtin F.entry_set_update_loop ?_
    rw [Around.under_plainId F.plain_set_update_loop _]
    show wpAny _ A.in1 (pyNext (.ref I) >>= _) _ _ s
    refine wpAny_bind (W.done s _ _ hst fun s' hm => ?_)
    show wpAny _ A.in1 (ret Value.none) _ _ s'
    exact wpAny_pure (hR s' L es ep t (hm.mono hsub) (hS.keep fun o e => hm.heap S o hSw e) g (keepM hm hkp))
  | succ k ih =>
    intro i s hk' hi hst hkp ⟨L, es, ep, t, hS, g⟩ hR
    have hlt : i < n := by omega
    refine codeAny_builtin F.entry_set_update_loop ?_
    rw [Around.under_plainId F.plain_set_update_loop _]
    show wpAny _ A.in1 (pyNext (.ref I) >>= _) _ _ s
    refine wpAny_bind (W.item i s _ _ hlt hst fun v s' hP hst' hm => ?_)
    obtain ⟨p, hp, rfl⟩ := hval i v hP
    have hkp' := keepM hm hkp
    have sub : ∀ p ∈ L, p ∈ ks := fun p hp => List.mem_of_mem_take (g.sub p hp)
    have hS' : SPr (ph w) w s'.heap S L es ep t := ⟨hS.keep (fun o e => hm.heap S o hSw e), fun q hq => isP_keep (hk q (sub q hq)) hkp'⟩
    have hx : IsP s'.heap p.2 p.1 := isP_keep (hk p (List.mem_of_getElem? hp)) hkp'
    show wpAny _ A.in1 (holding [Value.ref p.1] (setAdd S (.ref p.1)) >>= _) _ _ s'
    refine wpAny_bind (wpAny_holding ?_)
    unfold setAdd
    refine wpAny_holding ?_
    refine wpAny_bind ((nestedKind P w).pyHash (k := pk p.2) hu ⟨hx, pk_depth _⟩ ?_)
    show wpAny _ _ (setAddHashed S (.ref p.1) (ph w p.2)) _ _ _
    refine add_p (s := { s' with toks := s'.toks + (nestedKind P w).draws (pk p.2) }) hS' hx hu (by have := g.len; omega) fun b h' L' es' ep' t' hsb hS2 c1 c2 => ?_
    have g' : GotP ks (i + 1) L' := by
      rcases Classical.em (p.2 ∈ L.map (·.2)) with c | c
      · rw [c1 c]; exact g.same hp c
      · exact g.more hp (c2 c)
    have hkp2 : ∀ b o, h0.get? b = some o → h'.get? b = some o := fun b o e => (hsb.2 b (fun z => by rw [z, hS0] at e; cases e)).trans (hkp' b o e)
    refine wpAny_pure ⟨plainId_quiet F.plain_set_update_loop _, ih (i + 1) _ (by omega) hlt (W.frame _ s' _ _ hst' (Nat.le_add_right _ _) fun b hb o e => ?_) hkp2 ⟨L', es', ep', t', hS2.toSP0, g'⟩ fun s'' L2 es2 ep2 t2 hm'' hS'' g'' hkp'' => ?_⟩
    · rw [hsb.2 b (fun h : b = S => hSf (by rw [← h]; exact hb))]; exact e
    · refine hR s'' L2 es2 ep2 t2 (Moved.trans W.gtrans ((hm.mono hsub).then_heap (Nat.le_add_right _ _) fun b o hb e => ?_) hm'') hS'' g'' hkp''
      rw [hsb.2 b (fun h : b = S => hb (by rw [h]; exact List.mem_cons_self))]; exact e
end
/-! ### by values -/
def SPat (w : World) (h : Heap) (a : Addr) (L : PL) : Prop := ∃ es ep t, SP0 (ph w) w h a L es ep t
def SPO (w : World) (a : Addr) (L : PL) : HO := .ext fun h => SPat w h a L
theorem spO_new {P : Program} {w : World} {H : Hp} {h : Heap} {a : Addr} {L : PL} (R : SPat w h a L) : ObjOk P w H h a (SPO w a L) := by
  have ⟨es, ep, t, R0⟩ := R
  obtain ⟨o, ho, _⟩ := R0.ob
  exact ⟨R, ⟨o, ho⟩, fun h1 h2 ⟨es, ep, t, R1⟩ k => ⟨es, ep, t, R1.keep k⟩⟩
theorem refs_ofP : ∀ {ks : PL} {us : List Value}, Vals (ks.map fun p => V.ref p.1) us → us = ks.map fun p => Value.ref p.1
  | [], _, .nil => rfl
  | p :: ks, _, .cons r t => by
    cases r
    rw [refs_ofP t] <;> rfl
theorem vals_refsP : ∀ (ks : PL), Vals (ks.map fun p => V.ref p.1) (ks.map fun p => Value.ref p.1)
  | [] => .nil
  | p :: ks => .cons rfl (vals_refsP ks)
section
variable {X : Cx}
theorem isP_of {pins : List (Addr × Obj)} {σ : L2.St} {H : Hp} {s : Shared} {b : Addr} {q : TP} (I : Inv X pins σ H s) (h : SqT X.K H b [.str q.1, .str q.2]) : IsP s.heap q b := by
  obtain ⟨its, r, ⟨o, ho, hc, n, hd⟩, _⟩ := I.tuple h
  obtain ⟨u1, u2, rfl, ⟨t1, e1⟩, ⟨t2, e2⟩⟩ := r.two
  subst e1 e2
  exact .tup ho hc hd (.cons (.text _ _) (.cons (.text _ _) .nil))
def rSetP (K : PySem.W.Frag) (w : World) : List V → Hp → VK → Prop := fun xs H Q => ∃ (l : Addr) (ks : PL), xs = [V.ref l] ∧ SqL K H l (ks.map fun p => V.ref p.1) ∧ (∀ p ∈ ks, SqT K H p.1 [.str p.2.1, .str p.2.2]) ∧ ks.length ≤ 4 ∧
  ∀ a L, H a = none → (∀ p ∈ L, p ∈ ks) → (∀ p ∈ ks, p.2 ∈ L.map (·.2)) → (L.map (·.2)).Nodup → L.length ≤ ks.length → Q (.ref a) (upd H a (SPO w a L))
theorem cr_setP (hc : X.calm = true) (hu : X.A.units + 64 < cLine) : CallR X (.type "set") (rSetP X.K X.w) := by
  intro pins s σ H vs us Q I r h
  obtain ⟨l, ks, rfl, hs, hk, h4, q⟩ := h
  rw [Vals.ref1 r]
  obtain ⟨its, rv, pl, hz⟩ := I.list hs
  have hl := pl.isList
  have hit := refs_ofP rv
  have hsz : its.toArray.size = ks.length := by rw [List.size_toArray, ← rv.length, List.length_map]
  have hlt : l < s.heap.objs.size := by obtain ⟨_, e, _⟩ := hl; exact Heap.lt_size e
  have sz1 : (s.heap.push (freshSet X.w)).objs.size = s.heap.objs.size + 1 := Heap.size_push ..
  have none_of : ∀ b, s.heap.objs.size ≤ b → s.heap.get? b = none := fun b hb => by
    cases q : s.heap.get? b with
    | none => rfl
    | some o => exact absurd (Nat.lt_of_lt_of_le (Heap.lt_size q) hb) (Nat.lt_irrefl _)
  refine set_any (Post := fun s' => ∃ h' tk L es ep t, s' = { s with heap := h', toks := tk } ∧ SP0 (ph X.w) X.w h' s.heap.objs.size L es ep t ∧ GotP ks ks.length L ∧ ∀ b o, s.heap.get? b = some o → h'.get? b = some o) hl (fun R hR => ?_) fun s' ⟨h', tk, L, es, ep, t, e, hS, g, hk'⟩ => ?_
  · have hl1 : (s.heap.push (freshSet X.w)).IsList l its.toArray := hl.push _
    have hh : X.A.in1.in1.in1.handled = none := by simp [I.ok.hd hc]
    refine loop_p ((Walks.list hh (s.heap.push (freshSet X.w)).objs.size l (by rw [sz1]; exact Nat.ne_of_lt (Nat.lt_succ_of_lt hlt)) its.toArray).toS) s.heap.objs.size ?_ ks hsz h4 ?_ s.heap (fun p hp => isP_of I (hk p hp)) (none_of _ (Nat.le_refl _)) (fun b hb => none_of b (by
        rw [List.mem_singleton.mp hb, sz1]
        exact Nat.le_succ _)) (by simp only [Around.in1_units]; omega) (its.toArray.size - 0) 0 _ (by omega) (Nat.zero_le _)
      ⟨⟨_, Heap.get?_push_size _ rfl, rfl, rfl⟩, hl1.push _⟩ (fun b o e => Heap.get?_push_of_some _ (Heap.get?_push_of_some _ e)) ⟨[], #[], 0, _, sp0_fresh (Heap.get?_push_of_some _ (Heap.get?_push_size _ rfl)), GotP.zero ks⟩ fun s' L es ep t hm hS g hkp => hR _ ?_
    · rw [sz1]
      simp only [List.mem_cons, List.mem_singleton, List.not_mem_nil, or_false, not_or]
      exact ⟨Nat.ne_of_lt (Nat.lt_succ_self _), Nat.ne_of_gt hlt⟩
    · intro i v hv
      have q : its[i]? = some v := by simpa using hv
      rw [hit, List.getElem?_map] at q
      cases hq : ks[i]? with
      | none => rw [hq] at q; cases q
      | some p =>
        rw [hq] at q
        exact ⟨p, rfl, (Option.some.inj q).symm⟩
    · obtain ⟨h', g2, d', tk', os'⟩ := s'
      have eg : g2 = s.gens := hm.gens
      have ed : d' = s.drawn := hm.drawn
      have eo : os' = s.os := hm.os
      subst eg ed eo
      rw [hsz] at g
      exact ⟨h', tk', L, es, ep, t, rfl, hS, g, hkp⟩
  · subst e
    refine ⟨.ref s.heap.objs.size, upd H s.heap.objs.size (SPO X.w s.heap.objs.size L), I.laid (t' := tk) hk' (Nat.le_refl _) (spO_new ⟨es, ep, t, hS⟩), rfl, q _ L (I.hok.fresh (Nat.le_refl _)) (fun p hp => List.mem_of_mem_take (g.sub p hp)) (fun p hp => g.all p (by rw [List.take_length]; exact hp)) hS.nd g.len⟩
end
end J

-- JR8
set_option Elab.async false
set_option linter.all false
set_option maxRecDepth 100000
set_option maxHeartbeats 4000000
/-! sorted(set(list)), upon data. -/
namespace J
open PySem PySem.Spec PyProof.Rows L2

/-! ### lists in strict order -/
section
variable {α : Type} {lt : α → α → Prop}
theorem strict_uniq (irr : ∀ a, ¬ lt a a) (tr : ∀ a b c, lt a b → lt b c → lt a c) : ∀ {l m : List α}, l.Pairwise lt → m.Pairwise lt → (∀ a, a ∈ l ↔ a ∈ m) → l = m
  | [], [], _, _, _ => rfl
  | [], b :: m, _, _, h => absurd ((h b).mpr List.mem_cons_self) (List.not_mem_nil)
  | a :: l, [], _, _, h => absurd ((h a).mp List.mem_cons_self) (List.not_mem_nil)
  | a :: l, b :: m, h1, h2, h => by
    obtain ⟨p1, q1⟩ := List.pairwise_cons.mp h1
    obtain ⟨p2, q2⟩ := List.pairwise_cons.mp h2
    have e : a = b := by
      rcases List.mem_cons.mp ((h a).mp List.mem_cons_self) with e | e
      · exact e
      · rcases List.mem_cons.mp ((h b).mpr List.mem_cons_self) with e' | e'
        · exact e'.symm
        · exact absurd (tr _ _ _ (p2 a e) (p1 b e')) (irr _)
    subst e
    rw [strict_uniq irr tr q1 q2 fun c => ⟨fun hc => ?_, fun hc => ?_⟩]
    · rcases List.mem_cons.mp ((h c).mp (List.mem_cons_of_mem _ hc)) with e | e
      · rw [e] at hc; exact absurd (p1 a hc) (irr a)
      · exact e
    · rcases List.mem_cons.mp ((h c).mpr (List.mem_cons_of_mem _ hc)) with e | e
      · rw [e] at hc; exact absurd (p2 a hc) (irr a)
      · exact e
theorem strict_ins (tri : ∀ a b, lt a b ∨ a = b ∨ lt b a) (tr : ∀ a b c, lt a b → lt b c → lt a c) (x : α) : ∀ {l : List α}, l.Pairwise lt → ∃ m : List α, m.Pairwise lt ∧ (∀ a, a ∈ m ↔ a = x ∨ a ∈ l) ∧ m.length ≤ l.length + 1
  | [], _ => ⟨[x], List.pairwise_singleton _ _, fun a => by simp, Nat.le_refl _⟩
  | b :: l, h => by
    obtain ⟨p1, q1⟩ := List.pairwise_cons.mp h
    rcases tri x b with c | c | c
    · refine ⟨x :: b :: l, List.pairwise_cons.mpr ⟨fun y hy => ?_, h⟩, fun a => by simp, Nat.le_refl _⟩
      rcases List.mem_cons.mp hy with e | e
      · rw [e]; exact c
      · exact tr _ _ _ c (p1 y e)
    · subst c
      exact ⟨x :: l, h, fun a => by simp, Nat.le_succ _⟩
    · obtain ⟨m, m1, m2, m3⟩ := strict_ins tri tr x q1
      refine ⟨b :: m, List.pairwise_cons.mpr ⟨fun y hy => ?_, m1⟩, fun a => ?_, Nat.succ_le_succ m3⟩
      · rcases (m2 y).mp hy with e | e
        · rw [e]; exact c
        · exact p1 y e
      · rw [List.mem_cons, List.mem_cons, m2 a]
        constructor
        · rintro (z | z | z)
          · exact .inr (.inl z)
          · exact .inl z
          · exact .inr (.inr z)
        · rintro (z | z | z)
          · exact .inr (.inl z)
          · exact .inl z
          · exact .inr (.inr z)
theorem strict_ex (tri : ∀ a b, lt a b ∨ a = b ∨ lt b a) (tr : ∀ a b c, lt a b → lt b c → lt a c) : ∀ ks : List α, ∃ m : List α, m.Pairwise lt ∧ (∀ a, a ∈ m ↔ a ∈ ks) ∧ m.length ≤ ks.length
  | [] => ⟨[], .nil, fun a => Iff.rfl, Nat.le_refl _⟩
  | k :: ks => by
    obtain ⟨m, m1, m2, m3⟩ := strict_ex tri tr ks
    obtain ⟨m', n1, n2, n3⟩ := strict_ins tri tr k m1
    exact ⟨m', n1, fun a => by rw [n2, m2, List.mem_cons], by rw [List.length_cons]; omega⟩
end
/-! ### the order of pairs of texts -/
def ltP (q r : TP) : Prop := pairLt q.1 q.2 r.1 r.2 = true
theorem str_ext {x y : Str} (h : x.cps.toList = y.cps.toList) : x = y := by
  cases x
  cases y
  simp only at h
  rw [Array.toList_inj.mp h]
theorem sl_tri (x y : Str) : x.cps.toList < y.cps.toList ∨ x = y ∨ y.cps.toList < x.cps.toList := by
  by_cases h1 : x.cps.toList < y.cps.toList
  · exact .inl h1
  · by_cases h2 : y.cps.toList < x.cps.toList
    · exact .inr (.inr h2)
    · exact .inr (.inl (str_ext (List.le_antisymm (List.not_lt.mp h2) (List.not_lt.mp h1))))
theorem ltP_iff {q r : TP} : ltP q r ↔ (q.1 = r.1 ∧ q.2.cps.toList < r.2.cps.toList) ∨ (q.1 ≠ r.1 ∧ q.1.cps.toList < r.1.cps.toList) := by
  unfold ltP pairLt
  by_cases h : q.1 = r.1
  · rw [if_pos h, decide_eq_true_eq]
    exact ⟨fun z => .inl ⟨h, z⟩, fun z => z.elim (·.2) fun z => absurd h z.1⟩
  · rw [if_neg h, decide_eq_true_eq]
    exact ⟨fun z => .inr ⟨h, z⟩, fun z => z.elim (fun z => absurd z.1 h) (·.2)⟩
theorem ltP_irr (q : TP) : ¬ ltP q q := fun h => by
  rcases ltP_iff.mp h with ⟨_, h⟩ | ⟨h, _⟩
  · exact List.lt_irrefl _ h
  · exact h rfl
theorem ltP_tr (q r t : TP) (h1 : ltP q r) (h2 : ltP r t) : ltP q t := by
  rcases ltP_iff.mp h1 with ⟨a1, a2⟩ | ⟨a1, a2⟩ <;> rcases ltP_iff.mp h2 with ⟨b1, b2⟩ | ⟨b1, b2⟩
  · exact ltP_iff.mpr (.inl ⟨a1.trans b1, List.lt_trans a2 b2⟩)
  · exact ltP_iff.mpr (.inr ⟨by rw [a1]; exact b1, by rw [a1]; exact b2⟩)
  · exact ltP_iff.mpr (.inr ⟨by rw [← b1]; exact a1, by rw [← b1]; exact a2⟩)
  · have h := List.lt_trans a2 b2
    exact ltP_iff.mpr (.inr ⟨fun z => by rw [z] at h; exact List.lt_irrefl _ h, h⟩)
theorem ltP_tri (q r : TP) : ltP q r ∨ q = r ∨ ltP r q := by
  by_cases h : q.1 = r.1
  · rcases sl_tri q.2 r.2 with c | c | c
    · exact .inl (ltP_iff.mpr (.inl ⟨h, c⟩))
    · exact .inr (.inl (Prod.ext h c))
    · exact .inr (.inr (ltP_iff.mpr (.inl ⟨h.symm, c⟩)))
  · rcases sl_tri q.1 r.1 with c | c | c
    · exact .inl (ltP_iff.mpr (.inr ⟨h, c⟩))
    · exact absurd c h
    · exact .inr (.inr (ltP_iff.mpr (.inr ⟨fun z => h z.symm, c⟩)))
/-! ### sorted of the set -/
abbrev pD (q : TP) : PyData := .tuple [.str q.1, .str q.2]
theorem dataLt_pD (q r : TP) : PySem.W.dataLt (pD q) (pD r) = pairLt q.1 q.2 r.1 r.2 := by
  show PySem.W.dataLt (.tuple [.str q.1, .str q.2]) (.tuple [.str r.1, .str r.2]) = _
  rw [PySem.W.dataLt_pair (by simp [PySem.W.alike]) (by simp [PySem.W.alike]), PySem.W.dataLt_str, PySem.W.dataLt_str]
  unfold pairLt
  simp only [PyData.eqv, beq_iff_eq]
  by_cases h1 : q.1 = r.1
  · rw [if_pos h1, if_pos h1]
    by_cases h2 : q.2 = r.2
    · rw [if_pos h2, h2, decide_eq_false (List.lt_irrefl _)]
    · rw [if_neg h2]
  · rw [if_neg h1, if_neg h1]
theorem perm_map_inv {α β : Type} {f : α → β} {l1 l2 : List β} (h : l1.Perm l2) : ∀ L : List α, l1 = L.map f → ∃ L2 : List α, L2.Perm L ∧ l2 = L2.map f := by
  induction h with
  | nil => intro L e; exact ⟨L, .refl _, e⟩
  | cons x _ ih =>
    intro L e
    cases L with
    | nil => cases e
    | cons a L =>
      rw [List.map_cons] at e
      injection e with e1 e2
      obtain ⟨L2, p, e3⟩ := ih L e2
      exact ⟨a :: L2, p.cons a, by rw [List.map_cons, e1, e3]⟩
  | swap x y l =>
    intro L e
    match L, e with
    | [], e => cases e
    | [a], e => cases e
    | a :: b :: L, e =>
      rw [List.map_cons, List.map_cons] at e
      injection e with e1 e2
      injection e2 with e2 e3
      exact ⟨b :: a :: L, .swap .., by rw [List.map_cons, List.map_cons, e1, e2, e3]⟩
  | trans _ _ ih1 ih2 =>
    intro L e
    obtain ⟨L1, p1, e1⟩ := ih1 L e
    obtain ⟨L2, p2, e2⟩ := ih2 L1 e1
    exact ⟨L2, p2.trans p1, e2⟩
theorem readsP {h : Heap} {q : TP} {a : Addr} (x : IsP h q a) : Reads h (.ref a) (pD q) [] := by
  obtain ⟨o, vs, n, t1, t2, ho, hc, hd, hv⟩ := isP_tuple x
  refine .tuple ho hc hd ?_
  rw [hv]
  exact .cons (as := []) (.str _ _) (.cons (as := []) (bs := []) (.str _ _) .nil)
theorem eachIs_map {α β γ : Type} {R : β → γ → Prop} {f : α → β} {g : α → γ} (h : ∀ a, R (f a) (g a)) : ∀ l : List α, PySem.W.EachIs R (l.map f) (l.map g)
  | [] => .nil
  | a :: l => .cons (h a) (eachIs_map h l)
theorem eachIs_ref : ∀ {vs : List Value} {L : PL}, PySem.W.EachIs (fun v p => v = Value.ref p.1) vs L → vs = L.map fun p => Value.ref p.1
  | _, _, .nil => rfl
  | _, _, .cons h t => by rw [List.map_cons, eachIs_ref t, h]
section
variable {X : Cx}
def rSortedP (K : PySem.W.Frag) (w : World) : List V → Hp → VK → Prop := fun vs H Q => ∃ (a : Addr) (L : PL), vs = [V.ref a] ∧ H a = some (SPO w a L) ∧ (∀ p ∈ L, SqT K H p.1 [.str p.2.1, .str p.2.2]) ∧ L.length ≤ 4 ∧ (L.map (·.2)).Nodup ∧
  ∀ (L' : PL) (p : Addr), L'.Perm L → L'.Pairwise (fun q r => ltP q.2 r.2) → H p = none → Q (.ref p) (upd H p (.lst (L'.map fun q => V.ref q.1)))
theorem cr_sortedP (hc : X.calm = true) (hu : X.A.units + 64 < cLine) : CallR X (.builtin "sorted") (rSortedP X.K X.w) := by
  intro pins s σ H vs us Q I r h
  obtain ⟨a, L, rfl, ha, hk, h4, hnd, q⟩ := h
  obtain ⟨⟨es, ep, t, R⟩, _⟩ := (show ObjOk X.prog X.w H s.heap a (.ext fun h => SPat X.w h a L) from I.hok a _ ha)
  obtain ⟨o, ho, hex, hd⟩ := R.ob
  rw [Vals.ref1 r]
  refine Calls.call_function_entry kind_sorted plain_sorted entry_sorted (args_sorted1 _) ?_
  unfold Builtin.«sorted»
  refine wpAny_bind (m := checkCount "sorted" 1 1 _) (wpAny_pure ?_)
  refine wpAny_bind (collect_set (A := X.A.in1) (by simp [I.ok.hd hc]) ⟨o, ho, hex.1, hd⟩ R.fits (by have := R.size; have := R.few; unfold scanBound; omega) R.tab.ris R.led fun s1 vs k1 hz g1 o1 pm => ?_)
  have hes : es.toList.map (·.2) = L.map fun q => Value.ref q.1 := by
    rw [R.rows]
    unfold rowsP
    rw [List.map_map] <;> rfl
  rw [hes] at pm
  obtain ⟨L1, pL, rfl⟩ := perm_map_inv pm.symm L rfl
  have hvl : L1.length ≤ 4 := by rw [pL.length_eq]; exact h4
  refine wpAny_bind (wpAny_newList ?_ (by rw [List.length_map, sizeLine_eq]; omega))
  have hoL : (s1.heap.push (seqObj "list" (L1.map fun q => Value.ref q.1).toArray 0)).get? s1.heap.objs.size = some (seqObj "list" (L1.map fun q => Value.ref q.1).toArray 0) := Heap.get?_push_size _ rfl
  have hi1 : ∀ p ∈ L1, IsP (s1.heap.push (seqObj "list" (L1.map fun q => Value.ref q.1).toArray 0)) p.2 p.1 := fun p hp => isP_keep (isP_of I (hk p (pL.mem_iff.mp hp))) fun c o e => Heap.get?_push_of_some _ (k1 c o e)
  have er : PySem.W.EachIs (fun v p => ∃ as, Reads (s1.heap.push (seqObj "list" (L1.map fun q => Value.ref q.1).toArray 0)) v (pD p.2) as ∧ s1.heap.objs.size ∉ as) (L1.map fun q => Value.ref q.1) L1 := by
    have key : ∀ l : PL, (∀ p ∈ l, IsP (s1.heap.push (seqObj "list" (L1.map fun q => Value.ref q.1).toArray 0)) p.2 p.1) → PySem.W.EachIs (fun v p => ∃ as, Reads (s1.heap.push (seqObj "list" (L1.map fun q => Value.ref q.1).toArray 0)) v (pD p.2) as ∧ s1.heap.objs.size ∉ as) (l.map fun q => Value.ref q.1) l := by
      intro l
      induction l with
      | nil => intro _; exact .nil
      | cons p l ih => exact fun hl => .cons ⟨[], readsP (hl p List.mem_cons_self), List.not_mem_nil⟩ (ih fun q hq => hl q (List.mem_cons_of_mem _ hq))
    exact key L1 hi1
  have e0 : PySem.W.EachIs (fun v (p : Addr × TP) => v = Value.ref p.1) (L1.map fun q => Value.ref q.1) L1 := by
    have := eachIs_map (R := fun v (p : Addr × TP) => v = Value.ref p.1) (f := fun q : Addr × TP => Value.ref q.1) (g := id) (fun _ => rfl) L1
    rwa [List.map_id] at this
  refine wpAny_bind (wpAny_holding (PySem.W.list_sort_data (s := { s1 with heap := s1.heap.push (seqObj "list" (L1.map fun q => Value.ref q.1).toArray 0) }) (enc := fun p => pD p.2) hoL e0 er (PySem.W.AllAlike.of fun b b' => by simp [PySem.W.alike, PySem.W.alikeAll]) (PySem.W.Sortable.tuples fun b => ⟨_, _, rfl⟩) (by rw [sizeLine_eq]; omega) (fun b hb => by
    simp only [Around.in1_units, PyData.depth, PyData.depthAll]
    omega) fun out ol eo => ?_))
  have eout := eachIs_ref eo
  obtain ⟨c, hcc⟩ := sortedHeap_at (vs := L1.map fun q => Value.ref q.1) (out := List.toArray out) hoL
  have pm2 : (L1.mergeSort (PySem.W.dataLe false fun p : Addr × TP => pD p.2)).Perm L := (List.mergeSort_perm _ _).trans pL
  have pw0 := PySem.W.sort_pairwise (le := PySem.W.dataLe false fun p : Addr × TP => pD p.2) (PySem.W.sortLe_total _ false _) L1
  have nd2 : ((L1.mergeSort (PySem.W.dataLe false fun p : Addr × TP => pD p.2)).map (·.2)).Nodup := (pm2.map (·.2)).nodup_iff.mpr hnd
  have pw : (L1.mergeSort (PySem.W.dataLe false fun p : Addr × TP => pD p.2)).Pairwise (fun q r => ltP q.2 r.2) := by
    refine List.Pairwise.imp ?_ ((List.pairwise_map.mp nd2).and pw0)
    rintro q r ⟨hne, hle⟩
    have h1 : (!PySem.W.dataLt (pD r.2) (pD q.2)) = true := hle
    rw [dataLt_pD] at h1
    rcases ltP_tri q.2 r.2 with z | z | z
    · exact z
    · exact absurd z hne
    · rw [show pairLt r.2.1 r.2.2 q.2.1 q.2.2 = true from z] at h1
      cases h1
  have hn : H s1.heap.objs.size = none := I.hok.fresh hz
  have kk : ∀ b u, s.heap.get? b = some u → (sortedHeap (s1.heap.push (seqObj "list" (L1.map fun q => Value.ref q.1).toArray 0)) s1.heap.objs.size (L1.map fun q => Value.ref q.1) (List.toArray out)).get? b = some u := fun b u e => by
    have q := k1 b u e
    have hlt := Heap.lt_size q
    rw [sortedHeap_old (Nat.ne_of_lt hlt) (by rw [size_push']; exact Nat.lt_succ_of_lt hlt)]
    exact Heap.get?_push_of_some _ q
  generalize L1.mergeSort (PySem.W.dataLe false fun p : Addr × TP => pD p.2) = L2 at pm2 pw eout
  have hlen : (L2.map fun q => V.ref q.1).length ≤ sizeLine := by rw [List.length_map, pm2.length_eq, sizeLine_eq]; omega
  have hv : Vals (L2.map fun q => V.ref q.1) out := by rw [eout]; exact vals_refsP L2
  have J : Inv X pins σ (upd H s1.heap.objs.size (.lst (L2.map fun q => V.ref q.1))) { s with heap := sortedHeap (s1.heap.push (seqObj "list" (L1.map fun q => Value.ref q.1).toArray 0)) s1.heap.objs.size (L1.map fun q => Value.ref q.1) (List.toArray out), gens := s1.gens, drawn := s1.drawn, toks := s1.toks } :=
    I.call (ch := []) (Un.laid kk hz hn) (I.hok.laid kk hz ⟨hlen, out, c, hv, hcc⟩) (by rw [g1]; exact I.bare) (fun _ z => nomatch z)
  have e : ({ s1 with heap := sortedHeap (s1.heap.push (seqObj "list" (L1.map fun q => Value.ref q.1).toArray 0)) s1.heap.objs.size (L1.map fun q => Value.ref q.1) (List.toArray out) } : Shared) = { s with heap := sortedHeap (s1.heap.push (seqObj "list" (L1.map fun q => Value.ref q.1).toArray 0)) s1.heap.objs.size (L1.map fun q => Value.ref q.1) (List.toArray out), gens := s1.gens, drawn := s1.drawn, toks := s1.toks } := by
    cases s1
    cases s
    cases o1
    rfl
  refine wpAny_pure ⟨_, rfl, ?_⟩
  show EP X pins σ Q (.ref s1.heap.objs.size) ({ s1 with heap := sortedHeap (s1.heap.push (seqObj "list" (L1.map fun q => Value.ref q.1).toArray 0)) s1.heap.objs.size (L1.map fun q => Value.ref q.1) (List.toArray out) } : Shared)
  rw [e]
  exact ⟨.ref s1.heap.objs.size, _, J, rfl, q L2 s1.heap.objs.size pm2 pw hn⟩
/-! ### upon data -/
theorem dqI {K : PySem.W.Frag} {B : Hp} : ∀ (ns : List Int), DqAll K B (ns.map V.int) (ns.map PyData.int)
  | [] => .nil
  | n :: ns => .cons (.int n) (dqI ns)
theorem dqI_inv {K : PySem.W.Frag} {B : Hp} : ∀ {ns : List Int} {vs : List V}, DqAll K B vs (ns.map PyData.int) → vs = ns.map V.int
  | [], _, .nil => rfl
  | n :: ns, _, .cons (.int _) t => by rw [List.map_cons, dqI_inv t]
theorem dqP_inv {K : PySem.W.Frag} {B : Hp} : ∀ {ks : List TP} {vs : List V}, DqAll K B vs (ks.map pD) → ∃ L : PL, vs = L.map (fun p => V.ref p.1) ∧ L.map (·.2) = ks ∧ ∀ p ∈ L, SqT K B p.1 [.str p.2.1, .str p.2.2]
  | [], _, .nil => ⟨[], rfl, rfl, fun p hp => by cases hp⟩
  | k :: ks, _, .cons h t => by
    obtain ⟨L, e1, e2, e3⟩ := dqP_inv t
    cases h with
    | @tup a xs _ hs ha =>
      have ex : xs = [.str k.1, .str k.2] := (FlatAll.cons (.str k.1) (.cons (.str k.2) .nil)).eq ha
      subst ex
      refine ⟨(a, k) :: L, by rw [List.map_cons, e1], by rw [List.map_cons, e2], fun p hp => ?_⟩
      rcases List.mem_cons.mp hp with rfl | hp
      · exact hs
      · exact e3 p hp
theorem dqP {K : PySem.W.Frag} {B : Hp} : ∀ (L : PL), (∀ p ∈ L, SqT K B p.1 [.str p.2.1, .str p.2.2]) → DqAll K B (L.map fun p => V.ref p.1) ((L.map (·.2)).map pD)
  | [], _ => .nil
  | p :: L, h => .cons (.tup (h p List.mem_cons_self) (.cons (.str _) (.cons (.str _) .nil))) (dqP L fun q hq => h q (List.mem_cons_of_mem _ hq))
variable {G : Gm} {S S1 : Sto} {e e1 : Expr}
theorem jn_sortSetI {as : List Expr} {ns rs : List Int} (hp1 : PE X e (tCB (rSortedSet X.w) (wA X [e1]))) (hp2 : PE X e1 (tCB (rSetI X.K X.w) (wA X as))) (ha : JA X as G S [.d (.list (ns.map .int))] S1) (h60 : ns.length < 60) (h1 : rs.Pairwise (· < ·)) (h2 : ∀ k, k ∈ rs ↔ k ∈ ns)
    (hs : starEach [e1] X.env = (false, eval e1 X.env) :: starEach [] X.env := by rfl) : JN X e G S (.lst (rs.map .int)) S1 := fun B σ H g sl =>
  wE_of hp1 (wA_of (pa_cons pe_w pa_w hs) (wE_of hp2 (wA_mono (ha B σ H g sl) fun vs H1 ⟨B1, w1, g1, r1⟩ => by
    cases r1 with
    | cons r1 rr =>
      cases rr
      obtain ⟨a, us, rfl, k1, k2⟩ := IsL.d.to g1 r1
      rw [dqI_inv k2] at k1
      refine ⟨a, ns, rfl, k1, h60, fun p c hp hc => wA_of pa_nil ?_⟩
      obtain ⟨g2, w2⟩ := g1.frozen (o := SetO X.w p (fun j => decide (j ∈ ns)) c) hp fun _ _ z => nomatch z
      refine ⟨p, _, c, rfl, upd_same, by omega, fun ms p2 m1 m2 m3 hp2 => ?_⟩
      have e : ms = rs := strict_uniq (fun a => Int.lt_irrefl a) (fun a b c => Int.lt_trans) m1 h1 fun k => by rw [m2 k, h2 k, decide_eq_true_eq]
      subst e
      exact NQ.comp w1 g1 (NQ.comp w2 g2 (NQ.new g2 hp2 ⟨_, upd_same, dqI _⟩)))))
theorem jn_sortSetP {as : List Expr} {ks rs : List TP} (hp1 : PE X e (tCB (rSortedP X.K X.w) (wA X [e1]))) (hp2 : PE X e1 (tCB (rSetP X.K X.w) (wA X as))) (ha : JA X as G S [.d (.list (ks.map pD))] S1) (h4 : ks.length ≤ 4) (h1 : rs.Pairwise ltP) (h2 : ∀ k, k ∈ rs ↔ k ∈ ks)
    (hs : starEach [e1] X.env = (false, eval e1 X.env) :: starEach [] X.env := by rfl) : JN X e G S (.lst (rs.map pD)) S1 := fun B σ H g sl =>
  wE_of hp1 (wA_of (pa_cons pe_w pa_w hs) (wE_of hp2 (wA_mono (ha B σ H g sl) fun vs H1 ⟨B1, w1, g1, r1⟩ => by
    cases r1 with
    | cons r1 rr =>
      cases rr
      obtain ⟨a, us, rfl, k1, k2⟩ := IsL.d.to g1 r1
      obtain ⟨L, e1, e2, e3⟩ := dqP_inv k2
      subst e1
      refine ⟨a, L, rfl, k1, fun p hp => sqt_mono g1.ex (e3 p hp), by rw [← List.length_map (·.2), e2]; exact h4, fun p L2 hp l1 l2 l3 l4 => wA_of pa_nil ?_⟩
      obtain ⟨g2, w2⟩ := g1.frozen (o := SPO X.w p L2) hp fun _ _ z => nomatch z
      have hq : ∀ q ∈ L2, SqT X.K B1 q.1 [.str q.2.1, .str q.2.2] := fun q hq => e3 q (l1 q hq)
      refine ⟨p, L2, rfl, upd_same, fun q hq' => sqt_mono g2.ex (sqt_mono w2.b.rd (hq q hq')), by have hl : L.length = ks.length := (by rw [← e2, List.length_map]); omega, l3, fun L3 p2 m1 m2 hp2 => ?_⟩
      have e : L3.map (·.2) = rs := strict_uniq ltP_irr ltP_tr (List.pairwise_map.mpr m2) h1 fun k => by
        rw [h2 k, (m1.map (·.2)).mem_iff, ← e2]
        constructor
        · intro z
          obtain ⟨q, hq, rfl⟩ := List.mem_map.mp z
          exact List.mem_map.mpr ⟨q, l1 q hq, rfl⟩
        · intro z
          obtain ⟨q, hq, rfl⟩ := List.mem_map.mp z
          exact l2 q hq
      subst e
      exact NQ.comp w1 g1 (NQ.comp w2 g2 (NQ.new g2 hp2 ⟨_, upd_same, dqP L3 fun q hq' => sqt_mono w2.b.rd (hq q (m1.mem_iff.mp hq'))⟩)))))
end
end J

-- JD0
set_option Elab.async false
set_option linter.all false
set_option maxRecDepth 100000
set_option maxHeartbeats 4000000
/-! The text by places; calls. -/
namespace J
open PySem PySem.Spec PyProof.Rows L2
def topS (i : Nat) : Stmt := PySem.Challenge.pw_driftsums_k25_whole_best_numbers.main.body.getD i (.Pass ⟨0, 0, 0, 0⟩)
/-- a def of the text, as it stands -/
structure Fu (K : PySem.W.Frag) (mg : Str → Option Value) (x : Str) (st : Stmt) (ps : List Str) where
  f : Addr
  fd : FuncData
  F : Fun K x x st f fd
  m : mg x = some (.ref f)
  b : Binds K fd ps []
abbrev Ok (P : Program) (w : World) (base : Heap) {K : PySem.W.Frag} {mg : Str → Option Value} {x : Str} {st : Stmt} {ps : List Str} (U : Fu K mg x st ps) (k : Nat) (rel : Rel) : Prop := FnOk P w K mg base CX0 k U.f U.fd ps (spJ ⟨P, w, K⟩ rel)
abbrev OkN (P : Program) (w : World) (base : Heap) {K : PySem.W.Frag} {mg : Str → Option Value} {x : Str} {st : Stmt} {ps : List Str} (U : Fu K mg x st ps) (k : Nat) (rel : List Wv → Sto → MO → Sto → Prop) : Prop := FnOk P w K mg base CX0 k U.f U.fd ps (spN ⟨P, w, K⟩ rel)
section
variable {X : Cx} {G : Gm} {S S1 S2 : Sto} {e : Expr} {es : List Expr} {p pos : Pos}
theorem je_call {x : Str} {st : Stmt} {ps : List Str} {U : Fu X.K X.mg x st ps} {k : Nat} {rel : Rel} {rs : List Wv} {z : Wv} (ok : FnOk X.prog X.w X.K X.mg X.base CX0 k U.f U.fd ps (spJ (wd X) rel)) (hr : Room k X.A) (ha : JA X (e :: es) G S rs S1) (hz : rel rs S1 z S2)
    (hg : Gl X x := by rfl) (hd : (x == ("__debug__" : Str)) = false := by decide) (he : starEach (e :: es) X.env = (false, eval e X.env) :: starEach es X.env := by rfl) (hpl : (backTo pos (starEach es X.env)).any (·.1) = false := by rfl) :
    JE X (.Call (.Name x p) (e :: es) [] pos) G S z S2 := je_fn (pe_call ok hr hg U.m U.F.kp U.b .nil pass0 pa_w hd he hpl) ha hz
theorem jn_call {x : Str} {st : Stmt} {ps : List Str} {U : Fu X.K X.mg x st ps} {k : Nat} {rel : List Wv → Sto → MO → Sto → Prop} {rs : List Wv} {z : MO} (ok : FnOk X.prog X.w X.K X.mg X.base CX0 k U.f U.fd ps (spN (wd X) rel)) (hr : Room k X.A) (ha : JA X (e :: es) G S rs S1) (hz : rel rs S1 z S2)
    (hg : Gl X x := by rfl) (hd : (x == ("__debug__" : Str)) = false := by decide) (he : starEach (e :: es) X.env = (false, eval e X.env) :: starEach es X.env := by rfl) (hpl : (backTo pos (starEach es X.env)).any (·.1) = false := by rfl) :
    JN X (.Call (.Name x p) (e :: es) [] pos) G S z S2 := jn_fn (pe_call ok hr hg U.m U.F.kp U.b .nil pass0 pa_w hd he hpl) ha hz
end
abbrev s_is_int : Stmt := topS 13
abbrev p_is_int : List Str := ["value", "least", "most"]
abbrev n_is_int : List Str := ["value", "least", "most"]
theorem sc_is_int : FnScope n_is_int p_is_int (defScope s_is_int) := ⟨rfl, rfl, rfl, by decide +kernel, rfl, by decide +kernel, by decide +kernel⟩
abbrev s_is_format : Stmt := topS 14
abbrev p_is_format : List Str := ["candidate"]
abbrev n_is_format : List Str := ["candidate"]
theorem sc_is_format : FnScope n_is_format p_is_format (defScope s_is_format) := ⟨rfl, rfl, rfl, by decide +kernel, rfl, by decide +kernel, by decide +kernel⟩
abbrev s_need_format : Stmt := topS 15
abbrev p_need_format : List Str := ["value"]
abbrev n_need_format : List Str := ["value"]
theorem sc_need_format : FnScope n_need_format p_need_format (defScope s_need_format) := ⟨rfl, rfl, rfl, by decide +kernel, rfl, by decide +kernel, by decide +kernel⟩
abbrev s_doubled : Stmt := topS 16
abbrev p_doubled : List Str := ["value", "many"]
abbrev n_doubled : List Str := ["value", "many", "turn"]
theorem sc_doubled : FnScope n_doubled p_doubled (defScope s_doubled) := ⟨rfl, rfl, rfl, by decide +kernel, rfl, by decide +kernel, by decide +kernel⟩
abbrev s_greatest_of : Stmt := topS 17
abbrev p_greatest_of : List Str := ["form"]
abbrev n_greatest_of : List Str := ["form"]
theorem sc_greatest_of : FnScope n_greatest_of p_greatest_of (defScope s_greatest_of) := ⟨rfl, rfl, rfl, by decide +kernel, rfl, by decide +kernel, by decide +kernel⟩
abbrev s_distance : Stmt := topS 18
abbrev p_distance : List Str := ["bits", "size"]
abbrev n_distance : List Str := ["bits", "size", "found", "bound"]
theorem sc_distance : FnScope n_distance p_distance (defScope s_distance) := ⟨rfl, rfl, rfl, by decide +kernel, rfl, by decide +kernel, by decide +kernel⟩
abbrev s_fits : Stmt := topS 19
abbrev p_fits : List Str := ["form", "value"]
abbrev n_fits : List Str := ["form", "value"]
theorem sc_fits : FnScope n_fits p_fits (defScope s_fits) := ⟨rfl, rfl, rfl, by decide +kernel, rfl, by decide +kernel, by decide +kernel⟩
abbrev s_is_number_of : Stmt := topS 20
abbrev p_is_number_of : List Str := ["form", "value"]
abbrev n_is_number_of : List Str := ["form", "value"]
theorem sc_is_number_of : FnScope n_is_number_of p_is_number_of (defScope s_is_number_of) := ⟨rfl, rfl, rfl, by decide +kernel, rfl, by decide +kernel, by decide +kernel⟩
abbrev s_sides : Stmt := topS 21
abbrev p_sides : List Str := ["bits", "value"]
abbrev n_sides : List Str := ["bits", "value", "step", "low"]
theorem sc_sides : FnScope n_sides p_sides (defScope s_sides) := ⟨rfl, rfl, rfl, by decide +kernel, rfl, by decide +kernel, by decide +kernel⟩
abbrev s_chosen : Stmt := topS 22
abbrev p_chosen : List Str := ["bits", "rounding", "value"]
abbrev n_chosen : List Str := ["bits", "rounding", "value", "low", "high", "near", "far"]
theorem sc_chosen : FnScope n_chosen p_chosen (defScope s_chosen) := ⟨rfl, rfl, rfl, by decide +kernel, rfl, by decide +kernel, by decide +kernel⟩
abbrev s_round_to : Stmt := topS 23
abbrev p_round_to : List Str := ["form", "rounding", "value"]
abbrev n_round_to : List Str := ["form", "rounding", "value", "found"]
theorem sc_round_to : FnScope n_round_to p_round_to (defScope s_round_to) := ⟨rfl, rfl, rfl, by decide +kernel, rfl, by decide +kernel, by decide +kernel⟩
abbrev s_is_machine : Stmt := topS 27
abbrev p_is_machine : List Str := ["candidate"]
abbrev n_is_machine : List Str := ["candidate", "one"]
theorem sc_is_machine : FnScope n_is_machine p_is_machine (defScope s_is_machine) := ⟨rfl, rfl, rfl, by decide +kernel, rfl, by decide +kernel, by decide +kernel⟩
abbrev s_need_machine : Stmt := topS 28
abbrev p_need_machine : List Str := ["form", "value"]
abbrev n_need_machine : List Str := ["form", "value"]
theorem sc_need_machine : FnScope n_need_machine p_need_machine (defScope s_need_machine) := ⟨rfl, rfl, rfl, by decide +kernel, rfl, by decide +kernel, by decide +kernel⟩
abbrev s_begun : Stmt := topS 29
abbrev p_begun : List Str := ["machine"]
abbrev n_begun : List Str := ["machine"]
theorem sc_begun : FnScope n_begun p_begun (defScope s_begun) := ⟨rfl, rfl, rfl, by decide +kernel, rfl, by decide +kernel, by decide +kernel⟩
abbrev s_first_place : Stmt := topS 30
abbrev p_first_place : List Str := ["machine"]
abbrev n_first_place : List Str := ["machine"]
theorem sc_first_place : FnScope n_first_place p_first_place (defScope s_first_place) := ⟨rfl, rfl, rfl, by decide +kernel, rfl, by decide +kernel, by decide +kernel⟩
abbrev s_wider : Stmt := topS 31
abbrev p_wider : List Str := ["form", "way"]
abbrev n_wider : List Str := ["form", "way"]
theorem sc_wider : FnScope n_wider p_wider (defScope s_wider) := ⟨rfl, rfl, rfl, by decide +kernel, rfl, by decide +kernel, by decide +kernel⟩
abbrev s_plus : Stmt := topS 32
abbrev p_plus : List Str := ["form", "rounding", "one", "other"]
abbrev n_plus : List Str := ["form", "rounding", "one", "other"]
theorem sc_plus : FnScope n_plus p_plus (defScope s_plus) := ⟨rfl, rfl, rfl, by decide +kernel, rfl, by decide +kernel, by decide +kernel⟩
abbrev s_less : Stmt := topS 33
abbrev p_less : List Str := ["value"]
abbrev n_less : List Str := ["value"]
theorem sc_less : FnScope n_less p_less (defScope s_less) := ⟨rfl, rfl, rfl, by decide +kernel, rfl, by decide +kernel, by decide +kernel⟩
abbrev s_kept_step : Stmt := topS 34
abbrev p_kept_step : List Str := ["form", "rounding", "place", "number"]
abbrev n_kept_step : List Str := ["form", "rounding", "place", "number", "total", "lost", "new", "later", "gone"]
theorem sc_kept_step : FnScope n_kept_step p_kept_step (defScope s_kept_step) := ⟨rfl, rfl, rfl, by decide +kernel, rfl, by decide +kernel, by decide +kernel⟩
abbrev s_beside_step : Stmt := topS 35
abbrev p_beside_step : List Str := ["form", "rounding", "place", "number"]
abbrev n_beside_step : List Str := ["form", "rounding", "place", "number", "total", "lost", "later", "great", "small", "gone"]
theorem sc_beside_step : FnScope n_beside_step p_beside_step (defScope s_beside_step) := ⟨rfl, rfl, rfl, by decide +kernel, rfl, by decide +kernel, by decide +kernel⟩
abbrev s_total_told : Stmt := topS 36
abbrev p_total_told : List Str := ["form", "machine", "place"]
abbrev n_total_told : List Str := ["form", "machine", "place", "way", "rounding"]
theorem sc_total_told : FnScope n_total_told p_total_told (defScope s_total_told) := ⟨rfl, rfl, rfl, by decide +kernel, rfl, by decide +kernel, by decide +kernel⟩
abbrev s_step : Stmt := topS 37
abbrev p_step : List Str := ["form", "machine", "place", "number"]
abbrev n_step : List Str := ["form", "machine", "place", "number", "way", "rounding", "new", "high", "low"]
theorem sc_step : FnScope n_step p_step (defScope s_step) := ⟨rfl, rfl, rfl, by decide +kernel, rfl, by decide +kernel, by decide +kernel⟩
abbrev s_is_place : Stmt := topS 38
abbrev p_is_place : List Str := ["form", "machine", "value"]
abbrev n_is_place : List Str := ["form", "machine", "value", "broad", "one"]
theorem sc_is_place : FnScope n_is_place p_is_place (defScope s_is_place) := ⟨rfl, rfl, rfl, by decide +kernel, rfl, by decide +kernel, by decide +kernel⟩
abbrev s_need_place : Stmt := topS 39
abbrev p_need_place : List Str := ["form", "machine", "value"]
abbrev n_need_place : List Str := ["form", "machine", "value"]
theorem sc_need_place : FnScope n_need_place p_need_place (defScope s_need_place) := ⟨rfl, rfl, rfl, by decide +kernel, rfl, by decide +kernel, by decide +kernel⟩
abbrev s_next_place : Stmt := topS 40
abbrev p_next_place : List Str := ["form", "machine", "place", "number"]
abbrev n_next_place : List Str := ["form", "machine", "place", "number"]
theorem sc_next_place : FnScope n_next_place p_next_place (defScope s_next_place) := ⟨rfl, rfl, rfl, by decide +kernel, rfl, by decide +kernel, by decide +kernel⟩
abbrev s_total_at : Stmt := topS 41
abbrev p_total_at : List Str := ["form", "machine", "place"]
abbrev n_total_at : List Str := ["form", "machine", "place"]
theorem sc_total_at : FnScope n_total_at p_total_at (defScope s_total_at) := ⟨rfl, rfl, rfl, by decide +kernel, rfl, by decide +kernel, by decide +kernel⟩
abbrev s_is_row_of : Stmt := topS 42
abbrev p_is_row_of : List Str := ["form", "value"]
abbrev n_is_row_of : List Str := ["form", "value", "one"]
theorem sc_is_row_of : FnScope n_is_row_of p_is_row_of (defScope s_is_row_of) := ⟨rfl, rfl, rfl, by decide +kernel, rfl, by decide +kernel, by decide +kernel⟩
abbrev s_run : Stmt := topS 43
abbrev p_run : List Str := ["form", "machine", "row"]
abbrev n_run : List Str := ["form", "machine", "row", "place", "found", "number"]
theorem sc_run : FnScope n_run p_run (defScope s_run) := ⟨rfl, rfl, rfl, by decide +kernel, rfl, by decide +kernel, by decide +kernel⟩
abbrev s_totals_of : Stmt := topS 44
abbrev p_totals_of : List Str := ["form", "machine", "row"]
abbrev n_totals_of : List Str := ["form", "machine", "row", "place"]
theorem sc_totals_of : FnScope n_totals_of p_totals_of (defScope s_totals_of) := ⟨rfl, rfl, rfl, by decide +kernel, rfl, by decide +kernel, by decide +kernel⟩
abbrev s_need_row : Stmt := topS 45
abbrev p_need_row : List Str := ["form", "machine", "row"]
abbrev n_need_row : List Str := ["form", "machine", "row"]
theorem sc_need_row : FnScope n_need_row p_need_row (defScope s_need_row) := ⟨rfl, rfl, rfl, by decide +kernel, rfl, by decide +kernel, by decide +kernel⟩
abbrev s_totals : Stmt := topS 46
abbrev p_totals : List Str := ["form", "machine", "row"]
abbrev n_totals : List Str := ["form", "machine", "row"]
theorem sc_totals : FnScope n_totals p_totals (defScope s_totals) := ⟨rfl, rfl, rfl, by decide +kernel, rfl, by decide +kernel, by decide +kernel⟩
abbrev s_is_lot_of : Stmt := topS 48
abbrev p_is_lot_of : List Str := ["form", "value"]
abbrev n_is_lot_of : List Str := ["form", "value", "one", "other"]
theorem sc_is_lot_of : FnScope n_is_lot_of p_is_lot_of (defScope s_is_lot_of) := ⟨rfl, rfl, rfl, by decide +kernel, rfl, by decide +kernel, by decide +kernel⟩
abbrev s_need_lot : Stmt := topS 49
abbrev p_need_lot : List Str := ["form", "value"]
abbrev n_need_lot : List Str := ["form", "value"]
theorem sc_need_lot : FnScope n_need_lot p_need_lot (defScope s_need_lot) := ⟨rfl, rfl, rfl, by decide +kernel, rfl, by decide +kernel, by decide +kernel⟩
abbrev s_need_few : Stmt := topS 51
abbrev p_need_few : List Str := ["form"]
abbrev n_need_few : List Str := ["form"]
theorem sc_need_few : FnScope n_need_few p_need_few (defScope s_need_few) := ⟨rfl, rfl, rfl, by decide +kernel, rfl, by decide +kernel, by decide +kernel⟩
abbrev s_after : Stmt := topS 53
abbrev p_after : List Str := ["form", "machine", "place", "number"]
abbrev n_after : List Str := ["form", "machine", "place", "number"]
theorem sc_after : FnScope n_after p_after (defScope s_after) := ⟨rfl, rfl, rfl, by decide +kernel, rfl, by decide +kernel, by decide +kernel⟩
abbrev s_seen_total : Stmt := topS 54
abbrev p_seen_total : List Str := ["form", "machine", "place"]
abbrev n_seen_total : List Str := ["form", "machine", "place"]
theorem sc_seen_total : FnScope n_seen_total p_seen_total (defScope s_seen_total) := ⟨rfl, rfl, rfl, by decide +kernel, rfl, by decide +kernel, by decide +kernel⟩
abbrev s_parted : Stmt := topS 55
abbrev p_parted : List Str := ["form", "one", "other", "lot", "start"]
abbrev n_parted : List Str := ["form", "one", "other", "lot", "start", "level", "seen", "later", "row", "here", "there", "number", "pair"]
theorem sc_parted : FnScope n_parted p_parted (defScope s_parted) := ⟨rfl, rfl, rfl, by decide +kernel, rfl, by decide +kernel, by decide +kernel⟩
abbrev s_need_told : Stmt := topS 57
abbrev p_need_told : List Str := ["value"]
abbrev n_need_told : List Str := ["value", "one"]
theorem sc_need_told : FnScope n_need_told p_need_told (defScope s_need_told) := ⟨rfl, rfl, rfl, by decide +kernel, rfl, by decide +kernel, by decide +kernel⟩
abbrev s_is_found : Stmt := topS 58
abbrev p_is_found : List Str := ["form", "lot", "state"]
abbrev n_is_found : List Str := ["form", "lot", "state", "first", "machine", "place"]
theorem sc_is_found : FnScope n_is_found p_is_found (defScope s_is_found) := ⟨rfl, rfl, rfl, by decide +kernel, rfl, by decide +kernel, by decide +kernel⟩
abbrev s_answers_at : Stmt := topS 59
abbrev p_answers_at : List Str := ["form", "lot", "state"]
abbrev n_answers_at : List Str := ["form", "lot", "state", "found", "number", "groups", "machine", "place", "new", "told"]
theorem sc_answers_at : FnScope n_answers_at p_answers_at (defScope s_answers_at) := ⟨rfl, rfl, rfl, by decide +kernel, rfl, by decide +kernel, by decide +kernel⟩
abbrev s_ranks_of : Stmt := topS 60
abbrev p_ranks_of : List Str := ["form", "lot", "start"]
abbrev n_ranks_of : List Str := ["form", "lot", "start", "steps", "left", "ranks", "state", "number", "groups", "rank", "going", "new", "group"]
theorem sc_ranks_of : FnScope n_ranks_of p_ranks_of (defScope s_ranks_of) := ⟨rfl, rfl, rfl, by decide +kernel, rfl, by decide +kernel, by decide +kernel⟩
abbrev s_need_machines : Stmt := topS 61
abbrev p_need_machines : List Str := ["form", "value"]
abbrev n_need_machines : List Str := ["form", "value", "one", "other"]
theorem sc_need_machines : FnScope n_need_machines p_need_machines (defScope s_need_machines) := ⟨rfl, rfl, rfl, by decide +kernel, rfl, by decide +kernel, by decide +kernel⟩
abbrev s_state_behind : Stmt := topS 62
abbrev p_state_behind : List Str := ["form", "machines", "row", "told"]
abbrev n_state_behind : List Str := ["form", "machines", "row", "told", "found", "machine"]
theorem sc_state_behind : FnScope n_state_behind p_state_behind (defScope s_state_behind) := ⟨rfl, rfl, rfl, by decide +kernel, rfl, by decide +kernel, by decide +kernel⟩
abbrev s_best_number : Stmt := topS 63
abbrev p_best_number : List Str := ["form", "machines", "lot", "row", "told"]
abbrev n_best_number : List Str := ["form", "machines", "lot", "row", "told", "number", "state", "ranks", "groups", "group"]
theorem sc_best_number : FnScope n_best_number p_best_number (defScope s_best_number) := ⟨rfl, rfl, rfl, by decide +kernel, rfl, by decide +kernel, by decide +kernel⟩
abbrev s_law_draw : Stmt := topS 65
abbrev p_law_draw : List Str := ["_law_script", "_law_town", "_law_many"]
abbrev n_law_draw : List Str := ["_law_script", "_law_town", "_law_many", "_law_one", "_law_at", "_law_mixed"]
theorem sc_law_draw : FnScope n_law_draw p_law_draw (defScope s_law_draw) := ⟨rfl, rfl, rfl, by decide +kernel, rfl, by decide +kernel, by decide +kernel⟩
abbrev s_law_pick : Stmt := topS 66
abbrev p_law_pick : List Str := ["_law_script", "_law_town", "_law_some_here"]
abbrev n_law_pick : List Str := ["_law_script", "_law_town", "_law_some_here"]
theorem sc_law_pick : FnScope n_law_pick p_law_pick (defScope s_law_pick) := ⟨rfl, rfl, rfl, by decide +kernel, rfl, by decide +kernel, by decide +kernel⟩
abbrev s_law_broad : Stmt := topS 68
abbrev p_law_broad : List Str := ["_law_bits", "_law_value"]
abbrev n_law_broad : List Str := ["_law_bits", "_law_value", "_law_size", "_law_bound", "_law_turn"]
theorem sc_law_broad : FnScope n_law_broad p_law_broad (defScope s_law_broad) := ⟨rfl, rfl, rfl, by decide +kernel, rfl, by decide +kernel, by decide +kernel⟩
abbrev s_law_top : Stmt := topS 69
abbrev p_law_top : List Str := ["_law_form_here"]
abbrev n_law_top : List Str := ["_law_form_here", "_law_value", "_law_turn"]
theorem sc_law_top : FnScope n_law_top p_law_top (defScope s_law_top) := ⟨rfl, rfl, rfl, by decide +kernel, rfl, by decide +kernel, by decide +kernel⟩
abbrev s_law_sides : Stmt := topS 71
abbrev p_law_sides : List Str := ["_law_bits", "_law_value"]
abbrev n_law_sides : List Str := ["_law_bits", "_law_value", "_law_low", "_law_high"]
theorem sc_law_sides : FnScope n_law_sides p_law_sides (defScope s_law_sides) := ⟨rfl, rfl, rfl, by decide +kernel, rfl, by decide +kernel, by decide +kernel⟩
abbrev s_law_number : Stmt := topS 73
abbrev p_law_number : List Str := ["_law_script", "_law_town", "_law_form_here"]
abbrev n_law_number : List Str := ["_law_script", "_law_town", "_law_form_here", "_law_value"]
theorem sc_law_number : FnScope n_law_number p_law_number (defScope s_law_number) := ⟨rfl, rfl, rfl, by decide +kernel, rfl, by decide +kernel, by decide +kernel⟩
abbrev s_law_mode : Stmt := topS 74
abbrev p_law_mode : List Str := ["_law_script", "_law_town"]
abbrev n_law_mode : List Str := ["_law_script", "_law_town"]
theorem sc_law_mode : FnScope n_law_mode p_law_mode (defScope s_law_mode) := ⟨rfl, rfl, rfl, by decide +kernel, rfl, by decide +kernel, by decide +kernel⟩
abbrev s_law_machine : Stmt := topS 75
abbrev p_law_machine : List Str := ["_law_script", "_law_town"]
abbrev n_law_machine : List Str := ["_law_script", "_law_town", "_law_way"]
theorem sc_law_machine : FnScope n_law_machine p_law_machine (defScope s_law_machine) := ⟨rfl, rfl, rfl, by decide +kernel, rfl, by decide +kernel, by decide +kernel⟩
abbrev s_law_lot : Stmt := topS 77
abbrev p_law_lot : List Str := ["_law_script", "_law_town", "_law_form_here", "_law_most"]
abbrev n_law_lot : List Str := ["_law_script", "_law_town", "_law_form_here", "_law_most", "_law_some_here", "_law_k"]
theorem sc_law_lot : FnScope n_law_lot p_law_lot (defScope s_law_lot) := ⟨rfl, rfl, rfl, by decide +kernel, rfl, by decide +kernel, by decide +kernel⟩
abbrev s_law_after : Stmt := topS 78
abbrev p_law_after : List Str := ["_law_form_here", "_law_machine_here", "_law_place", "_law_x"]
abbrev n_law_after : List Str := ["_law_form_here", "_law_machine_here", "_law_place", "_law_x"]
theorem sc_law_after : FnScope n_law_after p_law_after (defScope s_law_after) := ⟨rfl, rfl, rfl, by decide +kernel, rfl, by decide +kernel, by decide +kernel⟩
abbrev s_law_shown : Stmt := topS 79
abbrev p_law_shown : List Str := ["_law_form_here", "_law_machine_here", "_law_place"]
abbrev n_law_shown : List Str := ["_law_form_here", "_law_machine_here", "_law_place"]
theorem sc_law_shown : FnScope n_law_shown p_law_shown (defScope s_law_shown) := ⟨rfl, rfl, rfl, by decide +kernel, rfl, by decide +kernel, by decide +kernel⟩
abbrev s_law_parted : Stmt := topS 80
abbrev p_law_parted : List Str := ["_law_form_here", "_law_one", "_law_other", "_law_lot_here", "_law_start"]
abbrev n_law_parted : List Str := ["_law_form_here", "_law_one", "_law_other", "_law_lot_here", "_law_start", "_law_layer", "_law_seen", "_law_later", "_law_row", "_law_pair", "_law_x", "_law_new"]
theorem sc_law_parted : FnScope n_law_parted p_law_parted (defScope s_law_parted) := ⟨rfl, rfl, rfl, by decide +kernel, rfl, by decide +kernel, by decide +kernel⟩
abbrev s_law_is_found : Stmt := topS 81
abbrev p_law_is_found : List Str := ["_law_form_here", "_law_lot_here", "_law_state_here"]
abbrev n_law_is_found : List Str := ["_law_form_here", "_law_lot_here", "_law_state_here", "_law_first", "_law_machine_here", "_law_place"]
theorem sc_law_is_found : FnScope n_law_is_found p_law_is_found (defScope s_law_is_found) := ⟨rfl, rfl, rfl, by decide +kernel, rfl, by decide +kernel, by decide +kernel⟩
abbrev s_law_groups : Stmt := topS 82
abbrev p_law_groups : List Str := ["_law_form_here", "_law_state_here", "_law_x"]
abbrev n_law_groups : List Str := ["_law_form_here", "_law_state_here", "_law_x", "_law_found", "_law_machine_here", "_law_place", "_law_new", "_law_keys", "_law_key", "_law_own", "_law_other"]
theorem sc_law_groups : FnScope n_law_groups p_law_groups (defScope s_law_groups) := ⟨rfl, rfl, rfl, by decide +kernel, rfl, by decide +kernel, by decide +kernel⟩
abbrev s_law_within : Stmt := topS 83
abbrev p_law_within : List Str := ["_law_form_here", "_law_lot_here", "_law_state_here", "_law_many", "_law_known"]
abbrev n_law_within : List Str := ["_law_form_here", "_law_lot_here", "_law_state_here", "_law_many", "_law_known", "_law_good", "_law_x", "_law_one"]
theorem sc_law_within : FnScope n_law_within p_law_within (defScope s_law_within) := ⟨rfl, rfl, rfl, by decide +kernel, rfl, by decide +kernel, by decide +kernel⟩
abbrev s_law_rank : Stmt := topS 84
abbrev p_law_rank : List Str := ["_law_form_here", "_law_lot_here", "_law_state_here", "_law_most", "_law_known"]
abbrev n_law_rank : List Str := ["_law_form_here", "_law_lot_here", "_law_state_here", "_law_most", "_law_known", "_law_many"]
theorem sc_law_rank : FnScope n_law_rank p_law_rank (defScope s_law_rank) := ⟨rfl, rfl, rfl, by decide +kernel, rfl, by decide +kernel, by decide +kernel⟩
abbrev s_law_some : Stmt := topS 85
abbrev p_law_some : List Str := ["_law_script", "_law_town"]
abbrev n_law_some : List Str := ["_law_script", "_law_town", "_law_some_here", "_law_k", "_law_one"]
theorem sc_law_some : FnScope n_law_some p_law_some (defScope s_law_some) := ⟨rfl, rfl, rfl, by decide +kernel, rfl, by decide +kernel, by decide +kernel⟩
abbrev s_law_state : Stmt := topS 86
abbrev p_law_state : List Str := ["_law_form_here", "_law_some_here", "_law_row", "_law_told"]
abbrev n_law_state : List Str := ["_law_form_here", "_law_some_here", "_law_row", "_law_told", "_law_found", "_law_machine_here", "_law_place", "_law_x"]
theorem sc_law_state : FnScope n_law_state p_law_state (defScope s_law_state) := ⟨rfl, rfl, rfl, by decide +kernel, rfl, by decide +kernel, by decide +kernel⟩
abbrev s_law : Stmt := topS 87
abbrev p_law : List Str := ["_law_script"]
abbrev n_law : List Str := ["_law_script", "_law_town", "_law_form_here", "_law_some_here", "_law_lot_here", "_law_known", "_law_hidden", "_law_row", "_law_k", "_law_told", "_law_state_here", "_law_rank_here", "_law_best", "_law_due", "_law_x", "_law_one"]
theorem sc_law : FnScope n_law p_law (defScope s_law) := ⟨rfl, rfl, rfl, by decide +kernel, rfl, by decide +kernel, by decide +kernel⟩
abbrev wayD : PyData := .tuple [.str "beside", .str "kept", .str "plain", .str "signs", .str "wide1", .str "wide2"]
abbrev modeD : PyData := .tuple [.str "away", .str "down", .str "even", .str "up", .str "zero"]
/-- what the top has left: the defs, the names that no one has taken, the constants -/
structure Tab (K : PySem.W.Frag) (mg : Str → Option Value) where
  is_int : Fu K mg "is_int" s_is_int p_is_int
  is_format : Fu K mg "is_format" s_is_format p_is_format
  need_format : Fu K mg "need_format" s_need_format p_need_format
  doubled : Fu K mg "doubled" s_doubled p_doubled
  greatest_of : Fu K mg "greatest_of" s_greatest_of p_greatest_of
  distance : Fu K mg "distance" s_distance p_distance
  fits : Fu K mg "fits" s_fits p_fits
  is_number_of : Fu K mg "is_number_of" s_is_number_of p_is_number_of
  sides : Fu K mg "sides" s_sides p_sides
  chosen : Fu K mg "chosen" s_chosen p_chosen
  round_to : Fu K mg "round_to" s_round_to p_round_to
  is_machine : Fu K mg "is_machine" s_is_machine p_is_machine
  need_machine : Fu K mg "need_machine" s_need_machine p_need_machine
  begun : Fu K mg "begun" s_begun p_begun
  first_place : Fu K mg "first_place" s_first_place p_first_place
  wider : Fu K mg "wider" s_wider p_wider
  plus : Fu K mg "plus" s_plus p_plus
  less : Fu K mg "less" s_less p_less
  kept_step : Fu K mg "kept_step" s_kept_step p_kept_step
  beside_step : Fu K mg "beside_step" s_beside_step p_beside_step
  total_told : Fu K mg "total_told" s_total_told p_total_told
  step : Fu K mg "step" s_step p_step
  is_place : Fu K mg "is_place" s_is_place p_is_place
  need_place : Fu K mg "need_place" s_need_place p_need_place
  next_place : Fu K mg "next_place" s_next_place p_next_place
  total_at : Fu K mg "total_at" s_total_at p_total_at
  is_row_of : Fu K mg "is_row_of" s_is_row_of p_is_row_of
  run : Fu K mg "run" s_run p_run
  totals_of : Fu K mg "totals_of" s_totals_of p_totals_of
  need_row : Fu K mg "need_row" s_need_row p_need_row
  totals : Fu K mg "totals" s_totals p_totals
  is_lot_of : Fu K mg "is_lot_of" s_is_lot_of p_is_lot_of
  need_lot : Fu K mg "need_lot" s_need_lot p_need_lot
  need_few : Fu K mg "need_few" s_need_few p_need_few
  after : Fu K mg "after" s_after p_after
  seen_total : Fu K mg "seen_total" s_seen_total p_seen_total
  parted : Fu K mg "parted" s_parted p_parted
  need_told : Fu K mg "need_told" s_need_told p_need_told
  is_found : Fu K mg "is_found" s_is_found p_is_found
  answers_at : Fu K mg "answers_at" s_answers_at p_answers_at
  ranks_of : Fu K mg "ranks_of" s_ranks_of p_ranks_of
  need_machines : Fu K mg "need_machines" s_need_machines p_need_machines
  state_behind : Fu K mg "state_behind" s_state_behind p_state_behind
  best_number : Fu K mg "best_number" s_best_number p_best_number
  law_draw : Fu K mg "_law_draw" s_law_draw p_law_draw
  law_pick : Fu K mg "_law_pick" s_law_pick p_law_pick
  law_broad : Fu K mg "_law_broad" s_law_broad p_law_broad
  law_top : Fu K mg "_law_top" s_law_top p_law_top
  law_sides : Fu K mg "_law_sides" s_law_sides p_law_sides
  law_number : Fu K mg "_law_number" s_law_number p_law_number
  law_mode : Fu K mg "_law_mode" s_law_mode p_law_mode
  law_machine : Fu K mg "_law_machine" s_law_machine p_law_machine
  law_lot : Fu K mg "_law_lot" s_law_lot p_law_lot
  law_after : Fu K mg "_law_after" s_law_after p_law_after
  law_shown : Fu K mg "_law_shown" s_law_shown p_law_shown
  law_parted : Fu K mg "_law_parted" s_law_parted p_law_parted
  law_is_found : Fu K mg "_law_is_found" s_law_is_found p_law_is_found
  law_groups : Fu K mg "_law_groups" s_law_groups p_law_groups
  law_within : Fu K mg "_law_within" s_law_within p_law_within
  law_rank : Fu K mg "_law_rank" s_law_rank p_law_rank
  law_some : Fu K mg "_law_some" s_law_some p_law_some
  law_state : Fu K mg "_law_state" s_law_state p_law_state
  law : Fu K mg "law" s_law p_law
  b_isinstance : mg "isinstance" = none
  b_len : mg "len" = none
  b_all : mg "all" = none
  b_any : mg "any" = none
  b_abs : mg "abs" = none
  b_range : mg "range" = none
  b_zip : mg "zip" = none
  b_sorted : mg "sorted" = none
  b_set : mg "set" = none
  b_tuple : mg "tuple" = none
  b_int : mg "int" = none
  b_bool : mg "bool" = none
  b_str : mg "str" = none
  b_list : mg "list" = none
  cWAYS : ∃ v u, mg "WAYS" = some u ∧ RelV v u ∧ ∀ B, Dq K B v wayD
  cROUND : ∃ v u, mg "ROUNDINGS" = some u ∧ RelV v u ∧ ∀ B, Dq K B v modeD
  cLONG : ∃ u, mg "LONGEST" = some u ∧ RelV (.int 40) u
section
variable {X : Cx} {G : Gm} {S S1 S2 : Sto} {a b e : Expr} {es : List Expr} {p pos : Pos}
/-- the name in the i-th slot -/
theorem vr (i : Nat) {x : Str} {w : Wv} (hN : X.N[i]? = some x := by rfl) (hG : G[i]? = some (some w) := by rfl) (hv : Vis X.env.scope x := by first | exact Or.inl rfl | exact Or.inr (Or.inl rfl) | exact Or.inr (Or.inr rfl)) (hd : (x == ("__debug__" : Str)) = false := by decide)
    (hcd : (x == ("__classdict__" : Str)) = false := by decide) : JE X (.Name x pos) G S w S := je_var hN hG hv hd hcd
end
end J

-- JD1
set_option Elab.async false
set_option linter.all false
set_option maxRecDepth 100000
set_option maxHeartbeats 4000000
/-! The rounding defs. -/
namespace J
open PySem PySem.Spec PyProof.Rows L2
theorem ip_mul {X : Cx} : PIp X .Mult (rI CMul fun i j => .int (i * j)) := by
  intro pins s σ H x y v u Q I r1 r2 h
  obtain ⟨i, j, e1, e2, hc, q⟩ := h
  subst e1; subst e2
  obtain ⟨t, rfl⟩ := r1
  obtain ⟨t', rfl⟩ := r2
  exact imul_int ⟨.int _, H, I.tok _, ⟨_, rfl⟩, q⟩ hc.ok
section
variable {X : Cx} {G : Gm} {S S1 S2 S3 : Sto} {a b c e : Expr} {rest : List Stmt} {D : DE} {pos : Pos}
theorem je_ix {r : R2} {x y z : Wv} (hr : IxR X r) (ha : JE X a G S x S1) (hb : JE X b G S1 y S2) (hj : RJ (wd X) r x y S2 z S3) (hs : PlainIx b := by intro _ _; rfl) : JE X (.Subscript a b pos) G S z S3 := fun B σ H g sl =>
  wE_of (pe_ix hr pe_w pe_w hs) (bin2 ha hb hj g sl fun _ _ q => q)
/-- t[i] of a tuple, i a constant -/
theorem ixT {ds : List PyData} {i : Int} {d : PyData} {j : Nat} {p1 : Pos} (ha : JE X a G S (.d (.tuple ds)) S1) (e : atI ds i = some d := by rfl) : JE X (.Subscript a (.Constant (.int i) j p1) pos) G S (.d d) S1 := je_ix ix_tup ha je_int (rj_ixT e)
theorem js_pr {x y : Str} {px py pt pt2 : Pos} {kt k2 : Nat} (i j : Nat) (hN : X.N.Nodup) (ha : JAX X [a, b] G S fun ws S1 => ∃ w w', ws = [w, w'] ∧ JS X rest ((G.set i (some w)).set j (some w')) S1 D) (hi : X.N[i]? = some x := by rfl) (hj : X.N[j]? = some y := by rfl) (hij : i ≠ j := by decide) (hc : X.calm = true := by rfl)
    (hx : X.env.scope.names.lookup x = some .local := by rfl) (hy : X.env.scope.names.lookup y = some .local := by rfl) (hw : swappedStores [.Tuple [.Name x px, .Name y py] kt pt] (.Tuple [a, b] k2 pt2) X.env = pure (some [x, y]) := by rfl)
    (hs : swapsWithSole [.Tuple [.Name x px, .Name y py] kt pt] (.Tuple [a, b] k2 pt2) pos.line X.env = pure false := by rfl) :
    JS X (.Assign [.Tuple [.Name x px, .Name y py] kt pt] (.Tuple [a, b] k2 pt2) pos :: rest) G S D := js_par2 (ps_par hc hN hi hj hij hx hy pa_w hw hs) ha
theorem a1 {r : Wv} (ha : JE X a G S r S1) (hs : starEach [a] X.env = (false, eval a X.env) :: starEach [] X.env := by rfl) : JA X [a] G S [r] S1 := ja_cons ha ja_nil hs
theorem a2 {r r' : Wv} (ha : JE X a G S r S1) (hb : JE X b G S1 r' S2) (hs : starEach [a, b] X.env = (false, eval a X.env) :: starEach [b] X.env := by rfl) (hs2 : starEach [b] X.env = (false, eval b X.env) :: starEach [] X.env := by rfl) : JA X [a, b] G S [r, r'] S2 := ja_cons ha (a1 hb hs2) hs
theorem a3 {r r' r'' : Wv} (ha : JE X a G S r S1) (hb : JE X b G S1 r' S2) (hc : JE X c G S2 r'' S3) (hs : starEach [a, b, c] X.env = (false, eval a X.env) :: starEach [b, c] X.env := by rfl) (hs2 : starEach [b, c] X.env = (false, eval b X.env) :: starEach [c] X.env := by rfl) (hs3 : starEach [c] X.env = (false, eval c X.env) :: starEach [] X.env := by rfl) :
    JA X [a, b, c] G S [r, r', r''] S3 := ja_cons ha (a2 hb hc hs2 hs3) hs
end
section
variable {P : Program} {w : World} {K : PySem.W.Frag} {mg : Str → Option Value} {base : Heap}
/-! ### doubled -/
def rDoubled : Rel := fun ds S r S' => ∃ (v : Int) (m : Nat), ds = [.d (.int v), .d (.int m)] ∧ m ≤ 100 ∧ r = .d (.int (v * 2 ^ m)) ∧ S' = S
theorem ok_doubled (T : Tab K mg) : Ok P w base T.doubled 1 rDoubled := fn_j T.doubled.F sc_doubled (fun _ _ _ _ ⟨_, _, e, _⟩ => by rw [e]; rfl) fun cdv A outer s H E hr ds S r S' ⟨v, m, e, h, er, eS⟩ => by
  subst e er eS
  refine js_for (fun i G S => S = S' ∧ ∃ t, G = [some (.d (.int (v * 2 ^ i))), some (.d (.int m)), t]) PassesOwn.never rfl (ji_range1 (pi_range1 rfl T.b_range pa_w) (ja_cons (vr 1) ja_nil) (by omega) (by omega)) ⟨rfl, none, by simp [G0]⟩ (fun _ _ _ _ => trivial) (fun i d G' S2 hd hP => ?_) (fun G' S2 hP => ?_)
  · obtain ⟨rfl, t, rfl⟩ := hP
    refine ⟨[2], _, jg_name sc_doubled.nd rfl, ?_⟩
    refine js_aug (i := 0) sc_doubled.nd rfl rfl ip_mul je_int (rj_mul (.inr (by decide))) (js_nil ⟨rfl, some (.d d), ?_⟩)
    rw [Int.pow_succ, Int.mul_assoc]
    rfl
  · obtain ⟨rfl, t, rfl⟩ := hP
    rw [rangeD_len, Int.toNat_natCast]
    exact js_ret (vr 0) ⟨.refl _, .refl _⟩
/-! ### greatest_of -/
abbrev fD (b e : Nat) : PyData := .tuple [.int (b : Int), .int (e : Int)]
def gr (b e : Nat) : Int := (1 * 2 ^ b - 1) * 2 ^ e
def rGreat : Rel := fun ds S r S' => ∃ (b e : Nat), ds = [.d (fD b e)] ∧ b ≤ 100 ∧ e ≤ 100 ∧ r = .d (.int (gr b e)) ∧ S' = S
theorem ok_greatest (T : Tab K mg) : Ok P w base T.greatest_of 2 rGreat := fn_j T.greatest_of.F sc_greatest_of (fun _ _ _ _ ⟨_, _, e, _⟩ => by rw [e]; rfl) fun cdv A outer s H E hr ds S r S' ⟨b, e, e1, hb, he, er, eS⟩ => by
  subst e1 er eS
  have h1 : Room 1 _ := hr.mono (by decide)
  refine js_ret (je_call (ok_doubled T) h1 (a2 (je_op op_sub (je_call (ok_doubled T) h1 (a2 je_int (ixT (vr 0))) ⟨1, b, rfl, hb, rfl, rfl⟩) je_int rj_sub) (ixT (vr 0))) ⟨_, e, rfl, he, rfl, rfl⟩) ⟨.refl _, .refl _⟩
/-! ### distance -/
def distG : Nat → Int → Int → Int → Int
  | 0, f, _, _ => f
  | n + 1, f, B, s => if f * B ≤ s then distG n (f * 2) B s else f
def dist (b : Nat) (s : Int) : Int := distG 40 1 (1 * 2 ^ b) s
theorem distG_bd : ∀ (n : Nat) (f B s : Int), 0 < f → 1 ≤ B → f ≤ 2 * s + 1 → 0 < distG n f B s ∧ distG n f B s ≤ 2 * s + 1
  | 0, f, B, s, h1, h2, h3 => ⟨h1, h3⟩
  | n + 1, f, B, s, h1, h2, h3 => by
    unfold distG
    by_cases c : f * B ≤ s
    · rw [if_pos c]
      have : f * 1 ≤ f * B := Int.mul_le_mul_of_nonneg_left h2 (by omega)
      exact distG_bd n (f * 2) B s (by omega) h2 (by omega)
    · rw [if_neg c]
      exact ⟨h1, h3⟩
theorem pow_pos2 (n : Nat) : (1 : Int) ≤ 1 * 2 ^ n := by
  rw [Int.one_mul]
  exact Int.add_one_le_of_lt (Int.pow_pos (by decide))
theorem dist_bd (b : Nat) {s : Int} (h : 0 ≤ s) : 0 < dist b s ∧ dist b s ≤ 2 * s + 1 := distG_bd 40 1 _ s (by decide) (pow_pos2 b) (by omega)
def rDist : Rel := fun ds S r S' => ∃ (b : Nat) (s : Int), ds = [.d (.int (b : Int)), .d (.int s)] ∧ b ≤ 60 ∧ 0 ≤ s ∧ s ≤ 100000 ∧ r = .d (.int (dist b s)) ∧ S' = S
theorem ok_distance (T : Tab K mg) : Ok P w base T.distance 2 rDist := fn_j T.distance.F sc_distance (fun _ _ _ _ ⟨_, _, e, _⟩ => by rw [e]; rfl) fun cdv A outer s H E hr ds S r S' ⟨b, z, e1, hb, h0, h1, er, eS⟩ => by
  subst e1 er eS
  have h1' : Room 1 _ := hr.mono (by decide)
  have hB : (1 : Int) * 2 ^ b < 2 ^ 64 := by
    rw [Int.one_mul]
    exact_mod_cast Nat.pow_lt_pow_right (a := 2) (by decide) (show b < 64 by omega)
  have hB1 := pow_pos2 b
  refine js_pr 2 3 sc_distance.nd (jax_cons je_int (jax_cons (je_call (ok_doubled T) h1' (a2 je_int (vr 0)) ⟨1, b, rfl, by omega, rfl, rfl⟩) (jax_nil ⟨_, _, rfl, ?_⟩)))
  refine js_while (m0 := 40) (Pv := fun m G S => S = S' ∧ ∃ f : Int, G = [some (.d (.int (b : Int))), some (.d (.int z)), some (.d (.int f)), some (.d (.int (1 * 2 ^ b)))] ∧ distG m f (1 * 2 ^ b) z = dist b z ∧ z < f * 2 ^ m ∧ 0 < f) PassesOwn.never ⟨rfl, 1, rfl, rfl, by omega, by decide⟩ ?_
  rintro m G' S2 ⟨rfl, f, rfl, hd, hz, hf⟩
  refine ⟨_, _, jt_cmp op_ge (vr 1) (je_op op_mul (vr 2) (vr 3) (rj_mul (.inr ⟨by omega, hB⟩))) rj_ge, fun h => ?_, fun h => ?_⟩
  · have hc : f * (1 * 2 ^ b) ≤ z := of_decide_eq_true h
    have hc2 : f * 1 ≤ f * (1 * 2 ^ b) := Int.mul_le_mul_of_nonneg_left hB1 (by omega)
    cases m with
    | zero => rw [Int.pow_zero] at hz; omega
    | succ m =>
      refine js_aug (i := 2) sc_distance.nd rfl rfl ip_mul je_int (rj_mul (.inr (by decide))) (js_nil ⟨m, Nat.lt_succ_self m, rfl, f * 2, rfl, ?_, ?_, by omega⟩)
      · unfold distG at hd
        rw [if_pos hc] at hd
        exact hd
      · rw [Int.pow_succ, Int.mul_comm (2 ^ m) 2, ← Int.mul_assoc] at hz
        exact hz
  · have hc : ¬ f * (1 * 2 ^ b) ≤ z := of_decide_eq_false h
    refine js_ret (vr 2) ⟨?_, .refl _⟩
    have e : f = dist b z := by
      rw [← hd]
      cases m with
      | zero => rfl
      | succ m => unfold distG; rw [if_neg hc]
    rw [e]
    exact .refl _
end
end J

-- JD2
set_option Elab.async false
set_option linter.all false
set_option maxRecDepth 100000
set_option maxHeartbeats 4000000
namespace J
open PySem PySem.Spec PyProof.Rows L2
abbrev ab (v : Int) : Int := if v < 0 then -v else v
theorem ab_nonneg (v : Int) : 0 ≤ ab v := by unfold ab; split <;> omega
theorem ab_le {v n : Int} (h1 : -n ≤ v) (h2 : v ≤ n) : ab v ≤ n := by unfold ab; split <;> omega
structure Num (b e : Nat) (x : Int) : Prop where
  top : ab x ≤ gr b e
  fit : x % dist b (ab x) = 0
  lo : -1000 ≤ x
  hi : x ≤ 1000
instance (b e : Nat) (x : Int) : Decidable (Num b e x) := decidable_of_iff (ab x ≤ gr b e ∧ x % dist b (ab x) = 0 ∧ -1000 ≤ x ∧ x ≤ 1000) ⟨fun ⟨a, b, c, d⟩ => ⟨a, b, c, d⟩, fun ⟨a, b, c, d⟩ => ⟨a, b, c, d⟩⟩
section
variable {X : Cx} {G : Gm} {S S1 S2 S3 : Sto} {a b c e : Expr} {rest els : List Stmt} {D : DE} {pos p p2 : Pos}
/-- isinstance(x, T) -/
theorem je_isi {x : Str} {n t : String} {d : PyData} {k : Bool} (hm : X.mg "isinstance" = none) (ha : JE X a G S (.d d) S) (h : kitB t n = some k) (hmx : X.mg x = none) (hv : bootBuiltins x = some (.type n)) (ht : tyD d = t := by rfl) (hg : Gl X "isinstance" := by rfl) (hgx : Gl X x := by rfl) (hn : x ≠ "__name__" := by decide) (hd : (x == ("__debug__" : Str)) = false := by decide)
    (he : starEach [a, .Name x p2] X.env = (false, eval a X.env) :: starEach [.Name x p2] X.env := by rfl) (he2 : starEach [.Name x p2] X.env = (false, eval (.Name x p2) X.env) :: starEach [] X.env := by rfl) (hpl : (backTo pos (starEach [.Name x p2] X.env)).any (·.1) = false := by rfl) :
    JE X (.Call (.Name "isinstance" p) [a, .Name x p2] [] pos) G S (.d (.bool k)) S :=
  je_cb (pe_callB call_isi hg hm PyProof.Rows.boot_isinstance pa_w (by decide) (by decide) he hpl) (a2 ha (je_ty hgx hmx hv hn hd) he he2) (cj_isi (by rw [ht]; exact h))
theorem kit_int_int : kitB "int" "int" = some true := by decide +kernel
theorem kit_int_bool : kitB "int" "bool" = some false := by decide +kernel
theorem kit_str_str : kitB "str" "str" = some true := by decide +kernel
theorem kit_tup_tup : kitB "tuple" "tuple" = some true := by decide +kernel
theorem kit_list_list : kitB "list" "list" = some true := by decide +kernel
/-- len of a tuple, of a list; abs -/
theorem je_lenT {ds : List PyData} (hm : X.mg "len" = none) (ha : JE X a G S (.d (.tuple ds)) S1) (hg : Gl X "len" := by rfl) (he : starEach [a] X.env = (false, eval a X.env) :: starEach [] X.env := by rfl) (hpl : (backTo pos (starEach [] X.env)).any (·.1) = false := by rfl) :
    JE X (.Call (.Name "len" p) [a] [] pos) G S (.d (.int ds.length)) S1 := je_cb (pe_callB call_len hg hm PySem.boot_len pa_w (by decide) (by decide) he hpl) (a1 ha he) cj_lenT
theorem je_lenL {x : Wv} {ds : List PyData} (hm : X.mg "len" = none) (ha : JE X a G S x S1) (hx : IsL S1 x ds) (hg : Gl X "len" := by rfl) (he : starEach [a] X.env = (false, eval a X.env) :: starEach [] X.env := by rfl) (hpl : (backTo pos (starEach [] X.env)).any (·.1) = false := by rfl) :
    JE X (.Call (.Name "len" p) [a] [] pos) G S (.d (.int ds.length)) S1 := je_cb (pe_callB call_len hg hm PySem.boot_len pa_w (by decide) (by decide) he hpl) (a1 ha he) (cj_lenL hx)
theorem je_abs {i : Int} (hm : X.mg "abs" = none) (ha : JE X a G S (.d (.int i)) S1) (hg : Gl X "abs" := by rfl) (he : starEach [a] X.env = (false, eval a X.env) :: starEach [] X.env := by rfl) (hpl : (backTo pos (starEach [] X.env)).any (·.1) = false := by rfl) :
    JE X (.Call (.Name "abs" p) [a] [] pos) G S (.d (.int (ab i))) S1 := je_cb (pe_callB call_abs hg hm PyProof.Rows.boot_abs pa_w (by decide) (by decide) he hpl) (a1 ha he) cj_abs
/-- a test by value: if c: .. where c is False -/
theorem js_noV (hc : JE X c G S (.d (.bool false)) S1) (h0 : JS X rest G S1 D) (he : ∀ whole, isTrue c X.env whole = (do let v ← whole; standAt c.pos; holding [v] (truthy v)) := by intro _; rfl) : JS X (.If c els [] pos :: rest) G S D := js_no (jt_val hc he) h0
theorem jt_notV {k : Bool} (ha : JE X a G S (.d (.bool k)) S1) (he : ∀ whole, isTrue a X.env whole = (do let v ← whole; standAt a.pos; holding [v] (truthy v)) := by intro _; rfl) : JT X (.UnaryOp .Not a pos) G S (!k) S1 := jt_not (jt_val ha he)
theorem jt_notT (ha : JE X a G S (.d (.bool true)) S1) (he : ∀ whole, isTrue a X.env whole = (do let v ← whole; standAt a.pos; holding [v] (truthy v)) := by intro _; rfl) : JT X (.UnaryOp .Not a pos) G S false S1 := jt_not (jt_val ha he)
end
section
variable {P : Program} {w : World} {K : PySem.W.Frag} {mg : Str → Option Value} {base : Heap}
/-! ### is_int, is_format, need_format -/
def rIsInt : Rel := fun ds S r S' => ∃ v l m : Int, ds = [.d (.int v), .d (.int l), .d (.int m)] ∧ l ≤ v ∧ v ≤ m ∧ r = .d (.bool true) ∧ S' = S
theorem ok_is_int (T : Tab K mg) : Ok P w base T.is_int 1 rIsInt := fn_j T.is_int.F sc_is_int (fun _ _ _ _ ⟨_, _, _, e, _⟩ => by rw [e]; rfl) fun cdv A outer s H E hr ds S r S' ⟨v, l, m, e1, h1, h2, er, eS⟩ => by
  subst e1 er eS
  refine js_ret (je_and (je_isi T.b_isinstance (vr 0) kit_int_int T.b_int PyProof.Rows.boot_int) (fun h => nomatch h) fun _ => je_and (je_not (je_isi T.b_isinstance (vr 0) kit_int_bool T.b_bool PyProof.Rows.boot_bool)) (fun h => nomatch h) fun _ => je_one (je_chain (w := .d (.bool true)) (pe_chain op_le op_le pe_w pe_w pe_w) (vr 1) (vr 0) rj_le (fun h => ?_) fun _ => ⟨vr 2, ?_⟩)) ⟨.refl _, .refl _⟩
  · exact absurd h1 (of_decide_eq_false h)
  · have := rj_le (W := ⟨P, w, K⟩) (S := S') (i := v) (j := m)
    rwa [decide_eq_true h2] at this
structure Fm (b e : Nat) : Prop where
  b2 : 2 ≤ b
  b4 : b ≤ 4
  e3 : e ≤ 3
def rIsFormat : Rel := fun ds S r S' => ∃ b e : Nat, ds = [.d (fD b e)] ∧ Fm b e ∧ r = .d (.bool true) ∧ S' = S
theorem ok_is_format (T : Tab K mg) : Ok P w base T.is_format 2 rIsFormat := fn_j T.is_format.F sc_is_format (fun _ _ _ _ ⟨_, _, e, _⟩ => by rw [e]; rfl) fun cdv A outer s H E hr ds S r S' ⟨b, e, e1, hf, er, eS⟩ => by
  subst e1 er eS
  have h1 : Room 1 _ := hr.mono (by decide)
  refine js_no (jt_w (jw_or (jt_notT (je_isi T.b_isinstance (vr 0) kit_tup_tup T.b_tuple PyProof.Rows.boot_tuple)) (fun h => nomatch h) fun _ => jw_or1 (jt_cmp op_ne (je_lenT T.b_len (vr 0)) je_int rj_neI))) ?_
  have := hf.b2
  have := hf.b4
  have := hf.e3
  exact js_ret (je_and (je_call (ok_is_int T) h1 (a3 (ixT (vr 0)) je_int je_int) ⟨b, 2, 4, rfl, by omega, by omega, rfl, rfl⟩) (fun h => nomatch h) fun _ => je_one (je_call (ok_is_int T) h1 (a3 (ixT (vr 0)) je_int je_int) ⟨e, 0, 3, rfl, by omega, by omega, rfl, rfl⟩)) ⟨.refl _, .refl _⟩
def rNeedFormat : Rel := fun ds S r S' => ∃ b e : Nat, ds = [.d (fD b e)] ∧ Fm b e ∧ r = .d .none ∧ S' = S
theorem ok_need_format (T : Tab K mg) : Ok P w base T.need_format 3 rNeedFormat := fn_j T.need_format.F sc_need_format (fun _ _ _ _ ⟨_, _, e, _⟩ => by rw [e]; rfl) fun cdv A outer s H E hr ds S r S' ⟨b, e, e1, hf, er, eS⟩ => by
  subst e1 er eS
  exact js_no (jt_notT (je_call (ok_is_format T) (hr.mono (by decide)) (a1 (vr 0)) ⟨b, e, rfl, hf, rfl, rfl⟩)) (js_nil ⟨.refl _, .refl _⟩)
/-! ### fits, is_number_of -/
def rFits : Rel := fun ds S r S' => ∃ (b e : Nat) (x : Int), ds = [.d (fD b e), .d (.int x)] ∧ b ≤ 60 ∧ e ≤ 60 ∧ Num b e x ∧ r = .d (.bool true) ∧ S' = S
theorem ok_fits (T : Tab K mg) : Ok P w base T.fits 3 rFits := fn_j T.fits.F sc_fits (fun _ _ _ _ ⟨_, _, _, e, _⟩ => by rw [e]; rfl) fun cdv A outer s H E hr ds S r S' ⟨b, e, x, e1, hb, he, hn, er, eS⟩ => by
  subst e1 er eS
  have h2 : Room 2 _ := hr.mono (by decide)
  have ha := ab_nonneg x
  have hl := ab_le (n := 1000) hn.lo hn.hi
  have hd := dist_bd b ha
  refine js_ret (je_and (je_cmp op_le (je_abs T.b_abs (vr 1)) (je_call (ok_greatest T) h2 (a1 (vr 0)) ⟨b, e, rfl, by omega, by omega, rfl, rfl⟩) rj_le) (fun h => absurd hn.top (of_decide_eq_false h)) fun _ =>
    je_one (JE.is (je_cmp op_eq (je_op op_mod (vr 1) (je_call (ok_distance T) h2 (a2 (ixT (vr 0)) (je_abs T.b_abs (vr 1))) ⟨b, ab x, rfl, hb, ha, by omega, rfl, rfl⟩) (rj_mod hd.1)) je_int rj_eqI) (by rw [hn.fit]; rfl))) ⟨.refl _, .refl _⟩
def rIsNum : Rel := fun ds S r S' => ∃ (b e : Nat) (x : Int), ds = [.d (fD b e), .d (.int x)] ∧ b ≤ 60 ∧ e ≤ 60 ∧ Num b e x ∧ r = .d (.bool true) ∧ S' = S
theorem ok_is_num (T : Tab K mg) : Ok P w base T.is_number_of 4 rIsNum := fn_j T.is_number_of.F sc_is_number_of (fun _ _ _ _ ⟨_, _, _, e, _⟩ => by rw [e]; rfl) fun cdv A outer s H E hr ds S r S' ⟨b, e, x, e1, hb, he, hn, er, eS⟩ => by
  subst e1 er eS
  exact js_ret (je_and (je_call (ok_is_int T) (hr.mono (by decide)) (a3 (vr 1) (je_un un_neg je_int uj_neg) je_int) ⟨x, -1000, 1000, rfl, hn.lo, hn.hi, rfl, rfl⟩) (fun h => nomatch h) fun _ => je_one (je_call (ok_fits T) (hr.mono (by decide)) (a2 (vr 0) (vr 1)) ⟨b, e, x, rfl, hb, he, hn, rfl, rfl⟩)) ⟨.refl _, .refl _⟩
/-! ### sides, chosen, round_to -/
def loF (b : Nat) (v : Int) : Int := v / dist b (ab v) * dist b (ab v)
def hiF (b : Nat) (v : Int) : Int := if loF b v = v then loF b v else loF b v + dist b (ab v)
def rSides : Rel := fun ds S r S' => ∃ (b : Nat) (v : Int), ds = [.d (.int (b : Int)), .d (.int v)] ∧ b ≤ 60 ∧ -1000 ≤ v ∧ v ≤ 1000 ∧ r = .d (.tuple [.int (loF b v), .int (hiF b v)]) ∧ S' = S
theorem ok_sides (T : Tab K mg) : Ok P w base T.sides 3 rSides := fn_j T.sides.F sc_sides (fun _ _ _ _ ⟨_, _, e, _⟩ => by rw [e]; rfl) fun cdv A outer s H E hr ds S r S' ⟨b, v, e1, hb, hl, hh, er, eS⟩ => by
  subst e1 er eS
  have ha := ab_nonneg v
  have hl' := ab_le hl hh
  have hd := dist_bd b ha
  refine js_set (i := 2) sc_sides.nd rfl (je_call (ok_distance T) (hr.mono (by decide)) (a2 (vr 0) (je_abs T.b_abs (vr 1))) ⟨b, ab v, rfl, hb, ha, by omega, rfl, rfl⟩) ?_
  refine js_set (i := 3) sc_sides.nd rfl (je_op op_mul (je_op op_fdiv (vr 1) (vr 2) (rj_div ⟨hd.1, by omega⟩)) (vr 2) (rj_mul (.inr ⟨by omega, by omega⟩))) ?_
  refine js_ret (je_tup (ds := [.int (loF b v), .int (hiF b v)]) (a2 (vr 3) (je_if (jt_cmp op_eq (vr 3) (vr 1) rj_eqI) (fun h => ?_) fun h => ?_))) ⟨.refl _, .refl _⟩
  · have h' : loF b v = v := of_decide_eq_true h
    exact JE.is (vr 3) (by rw [show hiF b v = loF b v from if_pos h']; rfl)
  · have h' : ¬ loF b v = v := of_decide_eq_false h
    exact JE.is (je_op op_add (vr 3) (vr 2) rj_add) (by rw [show hiF b v = loF b v + dist b (ab v) from if_neg h']; rfl)
end
end J

-- JD3
set_option Elab.async false
set_option linter.all false
set_option maxRecDepth 100000
set_option maxHeartbeats 4000000
namespace J
open PySem PySem.Spec PyProof.Rows L2
section
variable {X : Cx} {G : Gm} {S S1 S2 S3 : Sto} {a b c e : Expr} {rest els : List Stmt} {D : DE} {pos p p2 : Pos}
theorem rj_neS {W : Wd} {s t : Str} : RJ W rNe (.d (.str s)) (.d (.str t)) S (.d (.bool (!decide (s = t)))) S := by
  have h := rj_ne (W := W) (S := S) (.str s) (.str t) rfl
  rwa [show decide (V.str s = V.str t) = decide (s = t) by simp] at h
/-- x in ("..", ..) -/
theorem strs_flat : ∀ xs : List Str, FlatAll (xs.map PyData.str) (xs.map V.str)
  | [] => .nil
  | x :: xs => .cons (.str x) (strs_flat xs)
theorem strs_flatV : ∀ xs : List Str, (xs.map V.str).all flatV = true
  | [] => rfl
  | x :: xs => strs_flatV xs
theorem rj_inS {W : Wd} {neg : Bool} {s : Str} (xs : List Str) : RJ W (rIn W.K neg) (.d (.str s)) (.d (.tuple (xs.map PyData.str))) S (.d (.bool (if neg then !inV (.str s) (xs.map V.str) else inV (.str s) (xs.map V.str)))) S := rj_inT (.str s) (strs_flat xs) rfl (strs_flatV xs)
end
abbrev tDU : List Str := ["down", "up"]
def nrF (b : Nat) (v : Int) : Int := cond (decide (0 < v)) (loF b v) (hiF b v)
def frF (b : Nat) (v : Int) : Int := cond (decide (0 < v)) (hiF b v) (loF b v)
def chF (b : Nat) (r : Str) (v : Int) : Int :=
  cond (decide (loF b v = hiF b v)) v (cond (inV (.str r) (tDU.map V.str)) (cond (decide (r = "down")) (loF b v) (hiF b v))
    (cond (decide (r = "zero") || decide (2 * ab (v - nrF b v) < hiF b v - loF b v)) (nrF b v)
      (cond (decide (hiF b v - loF b v < 2 * ab (v - nrF b v)) || decide (r = "away")) (frF b v) (cond (decide (loF b v % (2 * (hiF b v - loF b v)) = 0)) (loF b v) (hiF b v)))))
abbrev oI : Option Int → PyData
  | none => .none
  | some i => .int i
def rdF (b e : Nat) (r : Str) (v : Int) : Option Int := cond (decide (ab (chF b r v) ≤ gr b e)) (some (chF b r v)) none
theorem hi_lo {b : Nat} {v : Int} (h : ¬ loF b v = hiF b v) : 0 < hiF b v - loF b v := by
  have hd := dist_bd b (ab_nonneg v)
  unfold hiF at h ⊢
  by_cases c : loF b v = v
  · rw [if_pos c] at h; exact absurd rfl h
  · rw [if_neg c] at h ⊢
    omega
section
variable {P : Program} {w : World} {K : PySem.W.Frag} {mg : Str → Option Value} {base : Heap}
def rChosen : Rel := fun ds S r S' => ∃ (b : Nat) (m : Str) (v : Int), ds = [.d (.int (b : Int)), .d (.str m), .d (.int v)] ∧ b ≤ 60 ∧ -1000 ≤ v ∧ v ≤ 1000 ∧ r = .d (.int (chF b m v)) ∧ S' = S
theorem ok_chosen (T : Tab K mg) : Ok P w base T.chosen 4 rChosen := fn_j T.chosen.F sc_chosen (fun _ _ _ _ ⟨_, _, _, e, _⟩ => by rw [e]; rfl) fun cdv A outer s H E hr ds S r S' ⟨b, m, v, e1, hb, hl, hh, er, eS⟩ => by
  subst e1 er eS
  refine js_unpack (G1 := [some (.d (.int (b : Int))), some (.d (.str m)), some (.d (.int v)), some (.d (.int (loF b v))), some (.d (.int (hiF b v))), none, none]) (js := [3, 4]) (je_call (ok_sides T) (hr.mono (by decide)) (a2 (vr 0) (vr 2)) ⟨b, v, rfl, hb, hl, hh, rfl, rfl⟩) (jg_tup (ds := [.int (loF b v), .int (hiF b v)]) rfl (jgs_cons (jg_name (i := 3) sc_chosen.nd rfl) (jgs_cons (jg_name (i := 4) sc_chosen.nd rfl) jgs_nil))) ?_
  refine js_if (jt_cmp op_eq (vr 3) (vr 4) rj_eqI) (fun h1 => js_ret (vr 2) ⟨?_, .refl _⟩) fun h1 => js_nil ?_
  · rw [show chF b m v = v by unfold chF; rw [h1]; rfl]
    exact .refl _
  have hne : ¬ loF b v = hiF b v := of_decide_eq_false h1
  have hp := hi_lo hne
  refine js_if (jt_cmp op_in_seq (vr 1) (je_tup (ds := tDU.map PyData.str) (a2 je_str je_str)) (rj_inS tDU)) (fun h2 => js_ret (je_if (r := .d (.int (cond (decide (m = "down")) (loF b v) (hiF b v)))) (jt_cmp op_eq (vr 1) je_str rj_eqS) (fun h => JE.is (vr 3) (by rw [h]; rfl)) (fun h => JE.is (vr 4) (by rw [h]; rfl))) ⟨?_, .refl _⟩) fun h2 => js_nil ?_
  · have h2' : inV (.str m) (tDU.map V.str) = true := h2
    rw [show chF b m v = cond (decide (m = "down")) (loF b v) (hiF b v) by unfold chF; rw [h1, h2']; rfl]
    exact .refl _
  have h2' : inV (.str m) (tDU.map V.str) = false := h2
  refine js_unpack (G1 := [some (.d (.int (b : Int))), some (.d (.str m)), some (.d (.int v)), some (.d (.int (loF b v))), some (.d (.int (hiF b v))), some (.d (.int (nrF b v))), some (.d (.int (frF b v)))]) (js := [5, 6]) (je_if (r := .d (.tuple [.int (nrF b v), .int (frF b v)])) (jt_cmp op_gt (vr 2) je_int rj_gt)
    (fun h => JE.is (je_tup (ds := [.int (loF b v), .int (hiF b v)]) (a2 (vr 3) (vr 4))) (by unfold nrF frF; rw [h]; rfl)) (fun h => JE.is (je_tup (ds := [.int (hiF b v), .int (loF b v)]) (a2 (vr 4) (vr 3))) (by unfold nrF frF; rw [h]; rfl)))
    (jg_tup (ds := [.int (nrF b v), .int (frF b v)]) rfl (jgs_cons (jg_name (i := 5) sc_chosen.nd rfl) (jgs_cons (jg_name (i := 6) sc_chosen.nd rfl) jgs_nil))) ?_
  have twice : ∀ {x : Expr} {pos : Pos} {j : Nat} {pj : Pos}, JE (cxOf CX0 P w K mg base n_chosen "chosen" (defScope s_chosen) T.chosen.f cdv A outer s H E).nox x [some (.d (.int (b : Int))), some (.d (.str m)), some (.d (.int v)), some (.d (.int (loF b v))), some (.d (.int (hiF b v))), some (.d (.int (nrF b v))), some (.d (.int (frF b v)))] S' (.d (.int (ab (v - nrF b v)))) S' →
      JE (cxOf CX0 P w K mg base n_chosen "chosen" (defScope s_chosen) T.chosen.f cdv A outer s H E).nox (.BinOp (.Constant (.int 2) j pj) .Mult x pos) [some (.d (.int (b : Int))), some (.d (.str m)), some (.d (.int v)), some (.d (.int (loF b v))), some (.d (.int (hiF b v))), some (.d (.int (nrF b v))), some (.d (.int (frF b v)))] S' (.d (.int (2 * ab (v - nrF b v)))) S' := fun h => je_op op_mul je_int h (rj_mul (.inl (by decide)))
  refine js_if (k := decide (m = "zero") || decide (2 * ab (v - nrF b v) < hiF b v - loF b v)) (jt_w (jw_or (jt_cmp op_eq (vr 1) je_str rj_eqS) (fun h => by rw [h]; rfl) fun h => jw_or1 (JT.is (jt_cmp op_lt (twice (je_abs T.b_abs (je_op op_sub (vr 2) (vr 5) rj_sub))) (je_op op_sub (vr 4) (vr 3) rj_sub) rj_lt) (by rw [h]; rfl))))
    (fun h3 => js_ret (vr 5) ⟨?_, .refl _⟩) fun h3 => js_nil ?_
  · rw [show chF b m v = nrF b v by unfold chF; rw [h1, h2', h3]; rfl]
    exact .refl _
  refine js_if (k := decide (hiF b v - loF b v < 2 * ab (v - nrF b v)) || decide (m = "away")) (jt_w (jw_or (jt_cmp op_gt (twice (je_abs T.b_abs (je_op op_sub (vr 2) (vr 5) rj_sub))) (je_op op_sub (vr 4) (vr 3) rj_sub) rj_gt) (fun h => by rw [h]; rfl) fun h => jw_or1 (JT.is (jt_cmp op_eq (vr 1) je_str rj_eqS) (by rw [h]; rfl))))
    (fun h4 => js_ret (vr 6) ⟨?_, .refl _⟩) fun h4 => js_nil ?_
  · rw [show chF b m v = frF b v by unfold chF; rw [h1, h2', h3, h4]; rfl]
    exact .refl _
  refine js_ret (je_if (r := .d (.int (chF b m v))) (jt_cmp op_eq (je_op op_mod (vr 3) (je_op op_mul je_int (je_op op_sub (vr 4) (vr 3) rj_sub) (rj_mul (.inl (by decide)))) (rj_mod (by omega))) je_int rj_eqI) (fun h => JE.is (vr 3) ?_) (fun h => JE.is (vr 4) ?_)) ⟨.refl _, .refl _⟩
  · rw [show chF b m v = loF b v by unfold chF; rw [h1, h2', h3, h4, h]; rfl]
  · rw [show chF b m v = hiF b v by unfold chF; rw [h1, h2', h3, h4, h]; rfl]
def rRound : Rel := fun ds S r S' => ∃ (b e : Nat) (m : Str) (v : Int), ds = [.d (fD b e), .d (.str m), .d (.int v)] ∧ b ≤ 60 ∧ e ≤ 60 ∧ -1000 ≤ v ∧ v ≤ 1000 ∧ r = .d (oI (rdF b e m v)) ∧ S' = S
theorem ok_round (T : Tab K mg) : Ok P w base T.round_to 5 rRound := fn_j T.round_to.F sc_round_to (fun _ _ _ _ ⟨_, _, _, _, e, _⟩ => by rw [e]; rfl) fun cdv A outer s H E hr ds S r S' ⟨b, e, m, v, e1, hb, he, hl, hh, er, eS⟩ => by
  subst e1 er eS
  refine js_set (i := 3) sc_round_to.nd rfl (je_call (ok_chosen T) (hr.mono (by decide)) (a3 (ixT (vr 0)) (vr 1) (vr 2)) ⟨b, m, v, rfl, hb, hl, hh, rfl, rfl⟩) ?_
  refine js_ret (je_if (r := .d (oI (rdF b e m v))) (jt_cmp op_le (je_abs T.b_abs (vr 3)) (je_call (ok_greatest T) (hr.mono (by decide)) (a1 (vr 0)) ⟨b, e, rfl, by omega, by omega, rfl, rfl⟩) rj_le) (fun h => JE.is (vr 3) (by unfold rdF; rw [h]; rfl)) (fun h => JE.is je_non (by unfold rdF; rw [h]; rfl))) ⟨.refl _, .refl _⟩
end
end J

-- JD4
set_option Elab.async false
set_option linter.all false
set_option maxRecDepth 100000
set_option maxHeartbeats 4000000
namespace J
open PySem PySem.Spec PyProof.Rows L2
section
variable {X : Cx} {G : Gm} {S S1 S2 S3 : Sto} {a b c e : Expr} {rest els : List Stmt} {D : DE} {pos p p2 : Pos}
/-- [f(x) for x in ..], the store as it is -/
theorem jn_map {elt tg iter : Expr} {scope : Scope} {ds rs : List PyData} {hold : Sto → Prop} (own : List (Str × Nat)) (hN : X.N.Nodup) (ok : BlkOk X.N X.env.scope scope own) (hi : JI X tg iter G S ds hold S1) (hl : rs.length = ds.length) (hz : ds.length < sizeLine) (hh : hold S1)
    (h : ∀ (i : Nat) d, ds[i]? = some d → ∃ js G2 y, (∀ j ∈ js, j ∈ own.map (·.2)) ∧ (∀ s H C cl fp, JG (X.blk s H scope (compEnvC scope cl C X.env) fp) tg S1 (.d d) js G G2) ∧ (∀ s H C cl fp, JE (X.blk s H scope (compEnvC scope cl C X.env) fp) elt G2 S1 (.d y) S1) ∧ rs[i]? = some y)
    (hG : ∀ i ∈ own.map (·.2), G[i]? = some none := by intro i hi; simp at hi; subst hi; rfl) (hc : X.calm = true := by rfl) (hs : ∀ x, foldedSetIterable iter X.env x = pure x := by intro _; rfl) : JN X (.ListComp elt [⟨tg, iter, [], 0⟩] scope pos) G S (.lst rs) S1 := by
  refine jn_lc (own := own) (fun i acc S' => S' = S1 ∧ acc = rs.take i) hc hN ok hG hi ⟨Nat.zero_le _, fun i d acc S' hd hP => ?_, fun i acc S' hle hP => ?_⟩ (fun i acc S' hP => by rw [hP.1]; exact hh) ⟨rfl, rfl⟩ (fun acc S' hP => ⟨?_, hP.1⟩) hz hs
  · obtain ⟨rfl, rfl⟩ := hP
    obtain ⟨js, G2, y, h1, h2, h3, h4⟩ := h i d hd
    refine ⟨js, G2, h1, h2, y, S', h3, rfl, ?_⟩
    rw [List.take_succ, h4]
    rfl
  · rw [hP.2, List.length_take]
    exact Nat.min_le_left _ _
  · rw [hP.2, ← hl, List.take_length]
theorem je_all {bs : List Bool} (hm : X.mg "all" = none) (ha : JE X a G S (.d (.list (bs.map .bool))) S1) (hg : Gl X "all" := by rfl) (he : starEach [a] X.env = (false, eval a X.env) :: starEach [] X.env := by rfl) (hpl : (backTo pos (starEach [] X.env)).any (·.1) = false := by rfl) (hc : X.calm = true := by rfl) :
    JE X (.Call (.Name "all" p) [a] [] pos) G S (.d (.bool (bs.all id))) S1 := je_cb (pe_callB (cr_all hc) hg hm PyProof.Rows.boot_all pa_w (by decide) (by decide) he hpl) (a1 ha he) cj_all
theorem je_any {bs : List Bool} (hm : X.mg "any" = none) (ha : JE X a G S (.d (.list (bs.map .bool))) S1) (hg : Gl X "any" := by rfl) (he : starEach [a] X.env = (false, eval a X.env) :: starEach [] X.env := by rfl) (hpl : (backTo pos (starEach [] X.env)).any (·.1) = false := by rfl) (hc : X.calm = true := by rfl) :
    JE X (.Call (.Name "any" p) [a] [] pos) G S (.d (.bool (bs.any id))) S1 := je_cb (pe_callB (cr_any hc) hg hm PyProof.Rows.boot_any pa_w (by decide) (by decide) he hpl) (a1 ha he) cj_any
/-- all([f(x) for x in t]), every f(x) True -/
theorem je_allT {elt tg iter : Expr} {scope : Scope} {ds : List PyData} {hold : Sto → Prop} (own : List (Str × Nat)) (hm : X.mg "all" = none) (hN : X.N.Nodup) (ok : BlkOk X.N X.env.scope scope own) (hi : JI X tg iter G S ds hold S1) (hz : ds.length < sizeLine) (hh : hold S1)
    (h : ∀ (i : Nat) d, ds[i]? = some d → ∃ js G2, (∀ j ∈ js, j ∈ own.map (·.2)) ∧ (∀ s H C cl fp, JG (X.blk s H scope (compEnvC scope cl C X.env) fp) tg S1 (.d d) js G G2) ∧ (∀ s H C cl fp, JE (X.blk s H scope (compEnvC scope cl C X.env) fp) elt G2 S1 (.d (.bool true)) S1))
    (hG : ∀ i ∈ own.map (·.2), G[i]? = some none := by intro i hi; simp at hi; subst hi; rfl) (hg : Gl X "all" := by rfl) (he : starEach [.ListComp elt [⟨tg, iter, [], 0⟩] scope p2] X.env = (false, eval (.ListComp elt [⟨tg, iter, [], 0⟩] scope p2) X.env) :: starEach [] X.env := by rfl) (hpl : (backTo pos (starEach [] X.env)).any (·.1) = false := by rfl)
    (hc : X.calm = true := by rfl) (hs : ∀ x, foldedSetIterable iter X.env x = pure x := by intro _; rfl) :
    JE X (.Call (.Name "all" p) [.ListComp elt [⟨tg, iter, [], 0⟩] scope p2] [] pos) G S (.d (.bool true)) S1 := by
  have h1 : JN X (.ListComp elt [⟨tg, iter, [], 0⟩] scope p2) G S (.lst ((List.replicate ds.length true).map .bool)) S1 := jn_map own hN ok hi (by simp) hz hh (fun i d hd => by
    obtain ⟨js, G2, k1, k2, k3⟩ := h i d hd
    refine ⟨js, G2, _, k1, k2, k3, ?_⟩
    rw [List.getElem?_map, List.getElem?_replicate, if_pos (List.getElem?_eq_some_iff.mp hd).1]
    rfl) hG hc hs
  have h2 := je_all (pos := pos) (p := p) hm (JE.frz h1) hg he hpl hc
  refine h2.is ?_
  rw [List.all_replicate]
  simp
end
theorem JRis {W : Wd} {r : R2} {x y : Wv} {S S' : Sto} {k k' : Bool} (h : RJ W r x y S (.d (.bool k)) S') (e : k = k') : RJ W r x y S (.d (.bool k')) S' := e ▸ h
/-! ### machines -/
def waysL : List Str := ["beside", "kept", "plain", "signs", "wide1", "wide2"]
def modesL : List Str := ["away", "down", "even", "up", "zero"]
structure Mach (m : TP) : Prop where
  way : m.1 ∈ waysL
  mode : m.2 ∈ modesL
theorem inV_mem {s : Str} : ∀ {xs : List Str}, inV (.str s) (xs.map V.str) = decide (s ∈ xs)
  | [] => rfl
  | x :: xs => by
    have ih := inV_mem (s := s) (xs := xs)
    unfold inV at ih ⊢
    rw [List.map_cons, List.any_cons, ih]
    show ((x == s) || decide (s ∈ xs)) = _
    by_cases c : x = s
    · subst c; simp
    · have c' : ¬ s = x := fun z => c z.symm
      simp [c, c']
section
variable {P : Program} {w : World} {K : PySem.W.Frag} {mg : Str → Option Value} {base : Heap}
def rIsMach : Rel := fun ds S r S' => ∃ m : TP, ds = [.d (pD m)] ∧ Mach m ∧ r = .d (.bool true) ∧ S' = S
theorem ok_is_mach (T : Tab K mg) : Ok P w base T.is_machine 1 rIsMach := fn_j T.is_machine.F sc_is_machine (fun _ _ _ _ ⟨_, e, _⟩ => by rw [e]; rfl) fun cdv A outer s H E hr ds S r S' ⟨m, e1, hm, er, eS⟩ => by
  subst e1 er eS
  obtain ⟨v1, u1, g1, r1, d1⟩ := T.cWAYS
  obtain ⟨v2, u2, g2, r2, d2⟩ := T.cROUND
  refine js_no (jt_w (jw_or (jt_notT (je_isi T.b_isinstance (vr 0) kit_tup_tup T.b_tuple PyProof.Rows.boot_tuple)) (fun h => nomatch h) fun _ => jw_or (jt_cmp op_ne (je_lenT T.b_len (vr 0)) je_int rj_neI) (fun h => by simp at h) fun _ => jw_or1 (jt_notT
    (je_allT [("one", 1)] T.b_all sc_is_machine.nd (blkOk_by (N := n_is_machine) (sc := defScope s_is_machine) (by decide +kernel)) (ji_tup (vr 0)) (by simp [sizeLine_eq]) trivial fun i d hd => ⟨[1], _, by decide, fun s H C cl fp => jg_name (i := 1) sc_is_machine.nd rfl, fun s H C cl fp => ?_⟩)))) ?_
  · have hd' : ∃ z, d = .str z := by
      match i, hd with
      | 0, hd => exact ⟨_, (Option.some.inj hd).symm⟩
      | 1, hd => exact ⟨_, (Option.some.inj hd).symm⟩
    obtain ⟨z, rfl⟩ := hd'
    exact je_isi T.b_isinstance (vr 1) kit_str_str T.b_str PyProof.Rows.boot_str
  · refine js_ret (je_and (je_cmp op_in_seq (ixT (vr 0)) (je_glob rfl g1 r1 d1) (JRis (k' := true) (rj_inS waysL) (by rw [inV_mem, decide_eq_true hm.way]; rfl))) (fun h => nomatch h) fun _ => je_one (je_cmp op_in_seq (ixT (vr 0)) (je_glob rfl g2 r2 d2) (JRis (k' := true) (rj_inS modesL) (by rw [inV_mem, decide_eq_true hm.mode]; rfl)))) ⟨.refl _, .refl _⟩
end
end J

-- JD5
set_option Elab.async false
set_option linter.all false
set_option maxRecDepth 100000
set_option maxHeartbeats 4000000
namespace J
open PySem PySem.Spec PyProof.Rows L2
theorem rj_is {W : Wd} {r : R2} {x y z z' : Wv} {S S' : Sto} (h : RJ W r x y S z S') (e : z = z') : RJ W r x y S z' S' := e ▸ h
abbrev zL : List Str := ["beside", "kept", "signs"]
abbrev wL : List Str := ["wide1", "wide2"]
abbrev pkL : List Str := ["plain", "kept"]
abbrev plD (l : List Int) : PyData := .tuple (l.map .int)
abbrev opD : Option (List Int) → PyData
  | none => .none
  | some l => plD l
def isZ (x : Str) : Bool := inV (.str x) (zL.map V.str)
def isW (x : Str) : Bool := inV (.str x) (wL.map V.str)
def isPK (x : Str) : Bool := inV (.str x) (pkL.map V.str)
def bgF (m : TP) : List Int := cond (isZ m.1) [0, 0] [0]
def wdF (b : Nat) (x : Str) : Nat := cond (isW x) (cond (decide (x = "wide1")) (b + 1) (b + 2)) b
def plF (b e : Nat) (r : Str) : Option Int → Option Int → Option Int
  | some x, some y => rdF b e r (x + y)
  | _, _ => none
def ngF : Option Int → Option Int
  | some x => some (-x)
  | none => none
/-- bounded -/
def Bd (n : Int) (x : Option Int) : Prop := ∀ z, x = some z → -n ≤ z ∧ z ≤ n
theorem Bd.some {n z : Int} (h1 : -n ≤ z) (h2 : z ≤ n) : Bd n (some z) := fun y e => by cases e; exact ⟨h1, h2⟩
theorem Bd.none {n : Int} : Bd n none := fun y e => by cases e
theorem Bd.mono {n k : Int} {x : Option Int} (h : Bd n x) (l : n ≤ k) : Bd k x := fun z e => by have := h z e; omega
theorem Bd.neg {n : Int} {x : Option Int} (h : Bd n x) : Bd n (ngF x) := fun z e => by
  cases x with
  | none => cases e
  | some y =>
    cases e
    have := h y rfl
    omega
theorem gr_le {b e : Nat} (hb : b ≤ 4) (he : e ≤ 3) : gr b e ≤ 120 := by
  unfold gr
  match b, e, hb, he with
  | 0, 0, _, _ | 0, 1, _, _ | 0, 2, _, _ | 0, 3, _, _ | 1, 0, _, _ | 1, 1, _, _ | 1, 2, _, _ | 1, 3, _, _ | 2, 0, _, _ | 2, 1, _, _ | 2, 2, _, _ | 2, 3, _, _ | 3, 0, _, _ | 3, 1, _, _ | 3, 2, _, _ | 3, 3, _, _ | 4, 0, _, _ | 4, 1, _, _ | 4, 2, _, _ | 4, 3, _, _ => decide
theorem rdF_bd {b e : Nat} {r : Str} {v z : Int} (h : rdF b e r v = some z) : ab z ≤ gr b e := by
  unfold rdF at h
  cases c : decide (ab (chF b r v) ≤ gr b e) with
  | true =>
    rw [c] at h
    cases h
    exact of_decide_eq_true c
  | false => rw [c] at h; cases h
theorem ab_bd {z n : Int} (h : ab z ≤ n) : -n ≤ z ∧ z ≤ n := by unfold ab at h; split at h <;> omega
theorem plF_bd {b e : Nat} {r : Str} (hb : b ≤ 4) (he : e ≤ 3) (x y : Option Int) : Bd 120 (plF b e r x y) := fun z h => by
  cases x with
  | none => cases h
  | some x =>
    cases y with
    | none => cases h
    | some y =>
      have h1 := ab_bd (rdF_bd h)
      have h2 := gr_le hb he
      omega
/-- the places after a step, still with holes -/
def ksF (b e : Nat) (r : Str) (t l x : Int) : List (Option Int) :=
  let new := plF b e r (some x) (some (-l))
  let later := plF b e r (some t) new
  let gone := plF b e r later (some (-t))
  [later, plF b e r gone (ngF new)]
def bsF (b e : Nat) (r : Str) (t l x : Int) : List (Option Int) :=
  let later := plF b e r (some t) (some x)
  let great := cond (decide (ab x ≤ ab t)) t x
  let small := cond (decide (ab x ≤ ab t)) x t
  let gone := plF b e r (plF b e r (some great) (ngF later)) (some small)
  [later, plF b e r (some l) gone]
section
variable {P : Program} {w : World} {K : PySem.W.Frag} {mg : Str → Option Value} {base : Heap}
def rNeedMach : Rel := fun ds S r S' => ∃ (b e : Nat) (m : TP), ds = [.d (fD b e), .d (pD m)] ∧ Fm b e ∧ Mach m ∧ r = .d .none ∧ S' = S
theorem ok_need_mach (T : Tab K mg) : Ok P w base T.need_machine 4 rNeedMach := fn_j T.need_machine.F sc_need_machine (fun _ _ _ _ ⟨_, _, _, e, _⟩ => by rw [e]; rfl) fun cdv A outer s H E hr ds S r S' ⟨b, e, m, e1, hf, hm, er, eS⟩ => by
  subst e1 er eS
  refine js_expr (je_call (ok_need_format T) (hr.mono (by decide)) (a1 (vr 0)) ⟨b, e, rfl, hf, rfl, rfl⟩) ?_
  exact js_no (jt_notT (je_call (ok_is_mach T) (hr.mono (by decide)) (a1 (vr 1)) ⟨m, rfl, hm, rfl, rfl⟩)) (js_nil ⟨.refl _, .refl _⟩)
def rBegun : Rel := fun ds S r S' => ∃ m : TP, ds = [.d (pD m)] ∧ r = .d (plD (bgF m)) ∧ S' = S
theorem ok_begun (T : Tab K mg) : Ok P w base T.begun 1 rBegun := fn_j T.begun.F sc_begun (fun _ _ _ _ ⟨_, e, _⟩ => by rw [e]; rfl) fun cdv A outer s H E hr ds S r S' ⟨m, e1, er, eS⟩ => by
  subst e1 er eS
  refine js_ret (je_if (r := .d (plD (bgF m))) (jt_cmp op_in_seq (ixT (vr 0)) (je_tup (ds := zL.map PyData.str) (a3 je_str je_str je_str)) (rj_inS zL)) (fun h => JE.is (je_tup (ds := [.int 0, .int 0]) (a2 je_int je_int)) ?_) (fun h => JE.is (je_tup (ds := [.int 0]) (a1 je_int)) ?_)) ⟨.refl _, .refl _⟩
  · rw [show bgF m = [0, 0] by unfold bgF; rw [show isZ m.1 = true from h]; rfl]; rfl
  · rw [show bgF m = [0] by unfold bgF; rw [show isZ m.1 = false from h]; rfl]; rfl
def rFirst : Rel := fun ds S r S' => ∃ m : TP, ds = [.d (pD m)] ∧ Mach m ∧ r = .d (plD (bgF m)) ∧ S' = S
theorem ok_first (T : Tab K mg) : Ok P w base T.first_place 2 rFirst := fn_j T.first_place.F sc_first_place (fun _ _ _ _ ⟨_, e, _⟩ => by rw [e]; rfl) fun cdv A outer s H E hr ds S r S' ⟨m, e1, hm, er, eS⟩ => by
  subst e1 er eS
  refine js_no (jt_notT (je_call (ok_is_mach T) (hr.mono (by decide)) (a1 (vr 0)) ⟨m, rfl, hm, rfl, rfl⟩)) ?_
  exact js_ret (je_call (ok_begun T) (hr.mono (by decide)) (a1 (vr 0)) ⟨m, rfl, rfl, rfl⟩) ⟨.refl _, .refl _⟩
def rWider : Rel := fun ds S r S' => ∃ (b e : Nat) (x : Str), ds = [.d (fD b e), .d (.str x)] ∧ r = .d (fD (wdF b x) e) ∧ S' = S
theorem ok_wider (T : Tab K mg) : Ok P w base T.wider 1 rWider := fn_j T.wider.F sc_wider (fun _ _ _ _ ⟨_, _, _, e, _⟩ => by rw [e]; rfl) fun cdv A outer s H E hr ds S r S' ⟨b, e, x, e1, er, eS⟩ => by
  subst e1 er eS
  refine js_if (jt_cmp op_notIn_seq (vr 1) (je_tup (ds := wL.map PyData.str) (a2 je_str je_str)) (rj_inS wL)) (fun h => js_ret (vr 0) ⟨?_, .refl _⟩) fun h => js_nil ?_
  · have h' : isW x = false := by
      have h2 : (!isW x) = true := h
      cases c : isW x with
      | true => rw [c] at h2; cases h2
      | false => rfl
    rw [show wdF b x = b by unfold wdF; rw [h']; rfl]
    exact .refl _
  · have h' : isW x = true := by
      have h2 : (!isW x) = false := h
      cases c : isW x with
      | true => rfl
      | false => rw [c] at h2; cases h2
    refine js_ret (je_tup (ds := [.int ((wdF b x : Nat) : Int), .int (e : Int)]) (a2 (je_op op_add (ixT (vr 0)) (je_if (r := .d (.int (cond (decide (x = "wide1")) 1 2))) (jt_cmp op_eq (vr 1) je_str rj_eqS) (fun h => JE.is je_int (by rw [h]; rfl)) (fun h => JE.is je_int (by rw [h]; rfl))) (rj_is rj_add ?_)) (ixT (vr 0)))) ⟨.refl _, .refl _⟩
    unfold wdF
    rw [h']
    cases decide (x = "wide1") <;> rfl
def rPlus : Rel := fun ds S r S' => ∃ (b e : Nat) (m : Str) (x y : Option Int), ds = [.d (fD b e), .d (.str m), .d (oI x), .d (oI y)] ∧ b ≤ 60 ∧ e ≤ 60 ∧ Bd 400 x ∧ Bd 400 y ∧ r = .d (oI (plF b e m x y)) ∧ S' = S
theorem ok_plus (T : Tab K mg) : Ok P w base T.plus 6 rPlus := fn_j T.plus.F sc_plus (fun _ _ _ _ ⟨_, _, _, _, _, e, _⟩ => by rw [e]; rfl) fun cdv A outer s H E hr ds S r S' ⟨b, e, m, x, y, e1, hb, he, hx, hy, er, eS⟩ => by
  subst e1 er eS
  cases x with
  | none => exact js_ifT (jt_w (jw_or (jt_cmp op_isN (vr 2) je_non rj_isN) (fun _ => rfl) fun h => by exact absurd h.symm Bool.false_ne_true)) (js_ret je_non ⟨.refl _, .refl _⟩)
  | some x =>
    cases y with
    | none => exact js_ifT (jt_w (jw_or (jt_cmp op_isN (vr 2) je_non rj_isN) (fun h => by exact absurd h Bool.false_ne_true) fun _ => jw_or1 (jt_cmp op_isN (vr 3) je_non rj_isN))) (js_ret je_non ⟨.refl _, .refl _⟩)
    | some y =>
      refine js_no (jt_w (jw_or (jt_cmp op_isN (vr 2) je_non rj_isN) (fun h => by exact absurd h Bool.false_ne_true) fun _ => jw_or1 (jt_cmp op_isN (vr 3) je_non rj_isN))) ?_
      have h1 := hx x rfl
      have h2 := hy y rfl
      exact js_ret (je_call (ok_round T) (hr.mono (by decide)) (a3 (vr 0) (vr 1) (je_op op_add (vr 2) (vr 3) rj_add)) ⟨b, e, m, x + y, rfl, hb, he, by omega, by omega, rfl, rfl⟩) ⟨.refl _, .refl _⟩
def rLess : Rel := fun ds S r S' => ∃ x : Option Int, ds = [.d (oI x)] ∧ r = .d (oI (ngF x)) ∧ S' = S
theorem ok_less (T : Tab K mg) : Ok P w base T.less 1 rLess := fn_j T.less.F sc_less (fun _ _ _ _ ⟨_, e, _⟩ => by rw [e]; rfl) fun cdv A outer s H E hr ds S r S' ⟨x, e1, er, eS⟩ => by
  subst e1 er eS
  cases x with
  | none => exact js_ret (je_ifT (jt_cmp op_isN (vr 0) je_non rj_isN) je_non) ⟨.refl _, .refl _⟩
  | some x => exact js_ret (je_ifF (jt_cmp op_isN (vr 0) je_non rj_isN) (je_un un_neg (vr 0) uj_neg)) ⟨.refl _, .refl _⟩
end
end J

-- JD6
set_option Elab.async false
set_option linter.all false
set_option maxRecDepth 100000
set_option maxHeartbeats 4000000
namespace J
open PySem PySem.Spec PyProof.Rows L2
/-- ints in bounds -/
structure B2 (x : Int) : Prop where
  lo : -200 ≤ x
  hi : x ≤ 200
theorem B2.bd {x : Int} (h : B2 x) : Bd 400 (some x) := .some (by have := h.lo; omega) (by have := h.hi; omega)
theorem B2.ngbd {x : Int} (h : B2 x) : Bd 400 (some (-x)) := .some (by have := h.hi; omega) (by have := h.lo; omega)
def ttF (b e : Nat) (m : TP) (p : List Int) : Option Int :=
  cond (isPK m.1) (some (p.headD 0)) (cond (isW m.1) (rdF b e m.2 (p.headD 0)) (plF b e m.2 (some (p.headD 0)) (some (p.tail.headD 0))))
def nwF (b e : Nat) (m : TP) (p : List Int) (x : Int) : List (Option Int) :=
  cond (decide (m.1 = "kept")) (ksF b e m.2 (p.headD 0) (p.tail.headD 0) x)
    (cond (decide (m.1 = "beside")) (bsF b e m.2 (p.headD 0) (p.tail.headD 0) x)
      (cond (decide (m.1 = "signs")) (cond (decide (0 ≤ x)) [plF b e m.2 (some (p.headD 0)) (some x), some (p.tail.headD 0)] [some (p.headD 0), plF b e m.2 (some (p.tail.headD 0)) (some x)])
        [plF (wdF b m.1) e m.2 (some (p.headD 0)) (some x)]))
/-- all there -/
def allSome : List (Option Int) → Option (List Int)
  | [] => some []
  | none :: _ => none
  | some x :: r => (allSome r).map (x :: ·)
def stF (b e : Nat) (m : TP) (p : List Int) (x : Int) : Option (List Int) :=
  match allSome (nwF b e m p x) with
  | none => none
  | some l => cond (ttF b e m l).isNone none (some l)
theorem allSome_spec : ∀ (l : List (Option Int)), (allSome l = none ∧ none ∈ l) ∨ ∃ k, allSome l = some k ∧ l = k.map some
  | [] => .inr ⟨[], rfl, rfl⟩
  | none :: r => .inl ⟨rfl, List.mem_cons_self⟩
  | some x :: r => by
    rcases allSome_spec r with ⟨h1, h2⟩ | ⟨k, h1, h2⟩
    · exact .inl ⟨by unfold allSome; rw [h1]; rfl, List.mem_cons_of_mem _ h2⟩
    · exact .inr ⟨x :: k, by unfold allSome; rw [h1]; rfl, by rw [h2]; rfl⟩
def oV : Option Int → V
  | none => .non
  | some i => .int i
theorem oI_flat : ∀ xs : List (Option Int), FlatAll (xs.map oI) (xs.map oV)
  | [] => .nil
  | none :: xs => .cons .non (oI_flat xs)
  | some x :: xs => .cons (.int x) (oI_flat xs)
theorem oV_flat : ∀ xs : List (Option Int), (xs.map oV).all flatV = true
  | [] => rfl
  | none :: xs => oV_flat xs
  | some x :: xs => oV_flat xs
theorem inV_non : ∀ xs : List (Option Int), inV .non (xs.map oV) = decide (none ∈ xs)
  | [] => rfl
  | none :: xs => by simp [inV, oV, eqV]
  | some x :: xs => by
    have ih := inV_non xs
    unfold inV at ih ⊢
    rw [List.map_cons, List.any_cons, ih]
    show (false || decide (none ∈ xs)) = _
    simp
/-- the length of a machine's places -/
theorem ways_cases {m : TP} (h : Mach m) : m.1 = "beside" ∨ m.1 = "kept" ∨ m.1 = "plain" ∨ m.1 = "signs" ∨ m.1 = "wide1" ∨ m.1 = "wide2" := by
  have := h.way
  unfold waysL at this
  simpa using this
theorem at0 {α : Type} {x : α} {xs : List α} : atI (x :: xs) 0 = some x := atI_nat (j := 0) rfl
section
variable {P : Program} {w : World} {K : PySem.W.Frag} {mg : Str → Option Value} {base : Heap}
def rKept : Rel := fun ds S r S' => ∃ (b e : Nat) (m : Str) (t l x : Int), ds = [.d (fD b e), .d (.str m), .d (plD [t, l]), .d (.int x)] ∧ b ≤ 4 ∧ e ≤ 3 ∧ B2 t ∧ B2 l ∧ B2 x ∧ r = .d (.tuple ((ksF b e m t l x).map oI)) ∧ S' = S
theorem ok_kept (T : Tab K mg) : Ok P w base T.kept_step 7 rKept := fn_j T.kept_step.F sc_kept_step (fun _ _ _ _ ⟨_, _, _, _, _, _, e, _⟩ => by rw [e]; rfl) fun cdv A outer s H E hr ds S r S' ⟨b, e, m, t, l, x, e1, hb, he, ht, hl, hx, er, eS⟩ => by
  subst e1 er eS
  have h6 : Room 6 _ := hr.mono (by decide)
  have q := fun x y => (plF_bd (r := m) hb he x y).mono (show (120 : Int) ≤ 400 by decide)
  refine js_unpack (js := [4, 5]) (vr 2) (jg_tup (ds := [.int t, .int l]) rfl (jgs_cons (jg_name (i := 4) sc_kept_step.nd rfl) (jgs_cons (jg_name (i := 5) sc_kept_step.nd rfl) jgs_nil))) ?_
  refine js_set (i := 6) sc_kept_step.nd rfl (je_call (ok_plus T) h6 (ja_cons (vr 0) (a3 (vr 1) (vr 3) (je_un un_neg (vr 5) uj_neg))) ⟨b, e, m, some x, some (-l), rfl, by omega, by omega, hx.bd, hl.ngbd, rfl, rfl⟩) ?_
  refine js_set (i := 7) sc_kept_step.nd rfl (je_call (ok_plus T) h6 (ja_cons (vr 0) (a3 (vr 1) (vr 4) (vr 6))) ⟨b, e, m, some t, _, rfl, by omega, by omega, ht.bd, q _ _, rfl, rfl⟩) ?_
  refine js_set (i := 8) sc_kept_step.nd rfl (je_call (ok_plus T) h6 (ja_cons (vr 0) (a3 (vr 1) (vr 7) (je_un un_neg (vr 4) uj_neg))) ⟨b, e, m, _, some (-t), rfl, by omega, by omega, q _ _, ht.ngbd, rfl, rfl⟩) ?_
  exact js_ret (je_tup (ds := (ksF b e m t l x).map oI) (a2 (vr 7) (je_call (ok_plus T) h6 (ja_cons (vr 0) (a3 (vr 1) (vr 8) (je_call (ok_less T) (hr.mono (by decide)) (a1 (vr 6)) ⟨_, rfl, rfl, rfl⟩))) ⟨b, e, m, _, _, rfl, by omega, by omega, q _ _, (q _ _).neg, rfl, rfl⟩)) (show (2 : Nat) ≤ 1000 by decide)) ⟨.refl _, .refl _⟩
def rBeside : Rel := fun ds S r S' => ∃ (b e : Nat) (m : Str) (t l x : Int), ds = [.d (fD b e), .d (.str m), .d (plD [t, l]), .d (.int x)] ∧ b ≤ 4 ∧ e ≤ 3 ∧ B2 t ∧ B2 l ∧ B2 x ∧ r = .d (.tuple ((bsF b e m t l x).map oI)) ∧ S' = S
theorem ok_beside (T : Tab K mg) : Ok P w base T.beside_step 7 rBeside := fn_j T.beside_step.F sc_beside_step (fun _ _ _ _ ⟨_, _, _, _, _, _, e, _⟩ => by rw [e]; rfl) fun cdv A outer s H E hr ds S r S' ⟨b, e, m, t, l, x, e1, hb, he, ht, hl, hx, er, eS⟩ => by
  subst e1 er eS
  have h6 : Room 6 _ := hr.mono (by decide)
  have q := fun x y => (plF_bd (r := m) hb he x y).mono (show (120 : Int) ≤ 400 by decide)
  have hg : B2 (cond (decide (ab x ≤ ab t)) t x) := by cases decide (ab x ≤ ab t) <;> assumption
  have hs : B2 (cond (decide (ab x ≤ ab t)) x t) := by cases decide (ab x ≤ ab t) <;> assumption
  refine js_unpack (js := [4, 5]) (vr 2) (jg_tup (ds := [.int t, .int l]) rfl (jgs_cons (jg_name (i := 4) sc_beside_step.nd rfl) (jgs_cons (jg_name (i := 5) sc_beside_step.nd rfl) jgs_nil))) ?_
  refine js_set (i := 6) sc_beside_step.nd rfl (je_call (ok_plus T) h6 (ja_cons (vr 0) (a3 (vr 1) (vr 4) (vr 3))) ⟨b, e, m, some t, some x, rfl, by omega, by omega, ht.bd, hx.bd, rfl, rfl⟩) ?_
  refine js_unpack (js := [7, 8]) (je_if (r := .d (.tuple [.int (cond (decide (ab x ≤ ab t)) t x), .int (cond (decide (ab x ≤ ab t)) x t)])) (jt_cmp op_ge (je_abs T.b_abs (vr 4)) (je_abs T.b_abs (vr 3)) rj_ge)
    (fun h => JE.is (je_tup (ds := [.int t, .int x]) (a2 (vr 4) (vr 3))) (by rw [h]; rfl)) (fun h => JE.is (je_tup (ds := [.int x, .int t]) (a2 (vr 3) (vr 4))) (by rw [h]; rfl)))
    (jg_tup (ds := [.int (cond (decide (ab x ≤ ab t)) t x), .int (cond (decide (ab x ≤ ab t)) x t)]) rfl (jgs_cons (jg_name (i := 7) sc_beside_step.nd rfl) (jgs_cons (jg_name (i := 8) sc_beside_step.nd rfl) jgs_nil))) ?_
  refine js_set (i := 9) sc_beside_step.nd rfl (je_call (ok_plus T) h6 (ja_cons (vr 0) (a3 (vr 1) (je_call (ok_plus T) h6 (ja_cons (vr 0) (a3 (vr 1) (vr 7) (je_call (ok_less T) (hr.mono (by decide)) (a1 (vr 6)) ⟨_, rfl, rfl, rfl⟩))) ⟨b, e, m, some (cond (decide (ab x ≤ ab t)) t x), _, rfl, by omega, by omega, hg.bd, (q _ _).neg, rfl, rfl⟩) (vr 8)))
    ⟨b, e, m, _, some (cond (decide (ab x ≤ ab t)) x t), rfl, by omega, by omega, q _ _, hs.bd, rfl, rfl⟩) ?_
  exact js_ret (je_tup (ds := (bsF b e m t l x).map oI) (a2 (vr 6) (je_call (ok_plus T) h6 (ja_cons (vr 0) (a3 (vr 1) (vr 5) (vr 9))) ⟨b, e, m, some l, _, rfl, by omega, by omega, hl.bd, q _ _, rfl, rfl⟩)) (show (2 : Nat) ≤ 1000 by decide)) ⟨.refl _, .refl _⟩
def rTold : Rel := fun ds S r S' => ∃ (b e : Nat) (m : TP) (p : List Int), ds = [.d (fD b e), .d (pD m), .d (plD p)] ∧ b ≤ 4 ∧ e ≤ 3 ∧ p.length = (bgF m).length ∧ (∀ z ∈ p, B2 z) ∧ Mach m ∧ r = .d (oI (ttF b e m p)) ∧ S' = S
theorem ok_told (T : Tab K mg) : Ok P w base T.total_told 7 rTold := fn_j T.total_told.F sc_total_told (fun _ _ _ _ ⟨_, _, _, _, e, _⟩ => by rw [e]; rfl) fun cdv A outer s H E hr ds S r S' ⟨b, e, m, p, e1, hb, he, hp, hB, hm, er, eS⟩ => by
  subst e1 er eS
  have hpos : 0 < p.length := by
    rw [hp]
    unfold bgF
    cases isZ m.1 <;> decide
  obtain ⟨z, q, rfl⟩ : ∃ z q, p = z :: q := by
    cases p with
    | nil => exact absurd hpos (Nat.lt_irrefl _)
    | cons z q => exact ⟨z, q, rfl⟩
  have hz := hB z List.mem_cons_self
  refine js_unpack (js := [3, 4]) (vr 1) (jg_tup (ds := [.str m.1, .str m.2]) rfl (jgs_cons (jg_name (i := 3) sc_total_told.nd rfl) (jgs_cons (jg_name (i := 4) sc_total_told.nd rfl) jgs_nil))) ?_
  refine js_if (jt_cmp op_in_seq (vr 3) (je_tup (ds := pkL.map PyData.str) (a2 je_str je_str)) (rj_inS pkL)) (fun h => js_ret (ixT (d := .int z) (vr 2) at0) ⟨?_, .refl _⟩) fun h => js_nil ?_
  · rw [show ttF b e m (z :: q) = some z by unfold ttF; rw [show isPK m.1 = true from h]; rfl]
    exact .refl _
  have h1 : isPK m.1 = false := h
  refine js_if (jt_cmp op_in_seq (vr 3) (je_tup (ds := wL.map PyData.str) (a2 je_str je_str)) (rj_inS wL)) (fun h => js_ret (je_call (ok_round T) (hr.mono (by decide)) (a3 (vr 0) (vr 4) (ixT (d := .int z) (vr 2) at0)) ⟨b, e, m.2, z, rfl, by omega, by omega, by have := hz.lo; omega, by have := hz.hi; omega, rfl, rfl⟩) ⟨?_, .refl _⟩) fun h => js_nil ?_
  · rw [show ttF b e m (z :: q) = rdF b e m.2 z by unfold ttF; rw [h1, show isW m.1 = true from h]; rfl]
    exact .refl _
  have h2 : isW m.1 = false := h
  have h3 : isZ m.1 = true := by
    rcases ways_cases hm with c | c | c | c | c | c <;> rw [c] at h1 h2 ⊢ <;> revert h1 h2 <;> decide +kernel
  have hlen : (z :: q).length = 2 := by rw [hp]; unfold bgF; rw [h3]; rfl
  obtain ⟨y, rfl⟩ : ∃ y, q = [y] := by
    match q, hlen with
    | [y], _ => exact ⟨y, rfl⟩
  have hy := hB y (List.mem_cons_of_mem _ List.mem_cons_self)
  refine js_ret (je_call (ok_plus T) (hr.mono (by decide)) (ja_cons (vr 0) (a3 (vr 4) (ixT (d := .int z) (vr 2)) (ixT (d := .int y) (vr 2)))) ⟨b, e, m.2, some z, some y, rfl, by omega, by omega, hz.bd, hy.bd, rfl, rfl⟩) ⟨?_, .refl _⟩
  rw [show ttF b e m [z, y] = plF b e m.2 (some z) (some y) by unfold ttF; rw [h1, h2]; rfl]
  exact .refl _
end
end J

-- JM1
set_option Elab.async false
set_option linter.all false
set_option maxRecDepth 100000
set_option maxHeartbeats 4000000
/-! The numbers: what is rounded fits; what a step gives is a place. -/
namespace J
open PySem PySem.Spec PyProof.Rows L2
/-- the integers from -n to n -/
def span (n : Nat) : List Int := (List.range (2 * n + 1)).map fun (i : Nat) => (i : Int) - (n : Int)
theorem mem_span {n : Nat} {v : Int} (h1 : -(n : Int) ≤ v) (h2 : v ≤ (n : Int)) : v ∈ span n := by
  unfold span
  exact List.mem_map.mpr ⟨(v + n).toNat, List.mem_range.mpr (by omega), by omega⟩
def okRd (b e : Nat) (r : Str) (v : Int) : Bool := match rdF b e r v with
  | none => true
  | some z => decide (Num b e z) && (decide (v < 0) || decide (0 ≤ z)) && (decide (0 < v) || decide (z ≤ 0))
def lim : Nat → Nat
  | 2 => 26
  | 3 => 42
  | _ => 74
theorem rd_all : ([2, 3, 4].all fun b => [0, 1, 2].all fun e => modesL.all fun r => (span (lim b)).all fun v => okRd b e r v) = true := by decide +kernel
theorem rd_ok {b e : Nat} {r : Str} {v z : Int} (hb : 2 ≤ b) (hb4 : b ≤ 4) (he : e ≤ 2) (hr : r ∈ modesL) (h1 : -(lim b : Int) ≤ v) (h2 : v ≤ lim b) (h : rdF b e r v = some z) : Num b e z ∧ (0 ≤ v → 0 ≤ z) ∧ (v ≤ 0 → z ≤ 0) := by
  have hb' : b ∈ [2, 3, 4] := by
    have : b = 2 ∨ b = 3 ∨ b = 4 := by omega
    simp [this]
  have he' : e ∈ [0, 1, 2] := by
    have : e = 0 ∨ e = 1 ∨ e = 2 := by omega
    simp [this]
  have k := List.all_eq_true.mp (List.all_eq_true.mp (List.all_eq_true.mp (List.all_eq_true.mp rd_all b hb') e he') r hr) v (mem_span h1 h2)
  unfold okRd at k
  rw [h] at k
  simp only [Bool.and_eq_true, Bool.or_eq_true, decide_eq_true_eq] at k
  obtain ⟨⟨k1, k2⟩, k3⟩ := k
  exact ⟨k1, fun c => by omega, fun c => by omega⟩
structure Pl (e : Nat) (m : TP) (p : List Int) : Prop where
  len : p.length = (bgF m).length
  num : ∀ z ∈ p, Num (wdF 2 m.1) e z
  sgn : m.1 = "signs" → p.tail.headD 0 ≤ 0 ∧ 0 ≤ p.headD 0
  tot : (ttF 2 e m p).isSome = true
def grT : Nat → Nat
  | 2 => 12
  | 3 => 28
  | _ => 60
theorem gr_T {b e : Nat} (hb : 2 ≤ b) (hb4 : b ≤ 4) (he : e ≤ 2) : gr b e ≤ (grT b : Int) := by
  have q1 : b = 2 ∨ b = 3 ∨ b = 4 := by omega
  have q2 : e = 0 ∨ e = 1 ∨ e = 2 := by omega
  rcases q1 with rfl | rfl | rfl <;> rcases q2 with rfl | rfl | rfl <;> decide
theorem Num.bd {b e : Nat} {z : Int} (h : Num b e z) (hb : 2 ≤ b) (hb4 : b ≤ 4) (he : e ≤ 2) : -(grT b : Int) ≤ z ∧ z ≤ grT b := ab_bd (Int.le_trans h.top (gr_T hb hb4 he))
theorem wd_ge (x : Str) : 2 ≤ wdF 2 x ∧ wdF 2 x ≤ 4 := by
  unfold wdF
  cases isW x <;> cases decide (x = "wide1") <;> decide
theorem grT_le (b : Nat) : (grT b : Int) ≤ 60 := by
  unfold grT
  split <;> decide
theorem Num.b2 {b e : Nat} {z : Int} (h : Num b e z) (hb : 2 ≤ b) (hb4 : b ≤ 4) (he : e ≤ 2) : B2 z := by
  have h1 := h.bd hb hb4 he
  have h2 := grT_le b
  exact ⟨by omega, by omega⟩
theorem Pl.b2 {e : Nat} {m : TP} {p : List Int} (h : Pl e m p) (he : e ≤ 2) : ∀ z ∈ p, B2 z := fun z hz => (h.num z hz).b2 (wd_ge _).1 (wd_ge _).2 he
/-- a sum of two numbers, rounded -/
theorem pl_num {b e : Nat} {r : Str} {x y z : Int} (hb : 2 ≤ b) (hb4 : b ≤ 4) (he : e ≤ 2) (hr : r ∈ modesL) (hx : -(grT b : Int) ≤ x ∧ x ≤ grT b) (hy : -12 ≤ y ∧ y ≤ 12) (h : plF b e r (some x) (some y) = some z) : Num b e z ∧ (0 ≤ x + y → 0 ≤ z) ∧ (x + y ≤ 0 → z ≤ 0) := by
  have hl : (grT b : Int) + 12 ≤ lim b := by
    have : b = 2 ∨ b = 3 ∨ b = 4 := by omega
    rcases this with rfl | rfl | rfl <;> decide
  exact rd_ok hb hb4 he hr (by omega) (by omega) h
/-- a number of the form, or nothing -/
def ON (b e : Nat) (x : Option Int) : Prop := ∀ z, x = some z → Num b e z
theorem ON.some {b e : Nat} {x : Int} (h : Num b e x) : ON b e (some x) := fun z k => by cases k; exact h
theorem num_neg_bd {e : Nat} {x : Int} (he : e ≤ 2) (h : Num 2 e x) : -12 ≤ -x ∧ -x ≤ 12 := by
  have := h.bd (by decide) (by decide) he
  have h1 : (grT 2 : Int) = 12 := rfl
  omega
theorem num_bd {e : Nat} {x : Int} (he : e ≤ 2) (h : Num 2 e x) : -12 ≤ x ∧ x ≤ 12 := by
  have := h.bd (by decide) (by decide) he
  have h1 : (grT 2 : Int) = 12 := rfl
  omega
/-- a number, or minus one -/
def ONg (e : Nat) (x : Option Int) : Prop := ∀ z, x = some z → -12 ≤ z ∧ z ≤ 12
theorem ON.g {e : Nat} {x : Option Int} (he : e ≤ 2) (h : ON 2 e x) : ONg e x := fun z k => num_bd he (h z k)
theorem ONg.neg {e : Nat} {x : Option Int} (h : ONg e x) : ONg e (ngF x) := fun z k => by
  cases x with
  | none => cases k
  | some y =>
    cases k
    have := h y rfl
    omega
theorem ONg.some {e : Nat} {x : Int} (h : -12 ≤ x ∧ x ≤ 12) : ONg e (some x) := fun z k => by cases k; exact h
theorem pl_on {e : Nat} {r : Str} (he : e ≤ 2) (hr : r ∈ modesL) {x y : Option Int} (hx : ONg e x) (hy : ONg e y) : ON 2 e (plF 2 e r x y) := fun z h => by
  cases x with
  | none => cases h
  | some x =>
    cases y with
    | none => cases h
    | some y => exact (pl_num (b := 2) (by decide) (by decide) he hr (hx x rfl) (hy y rfl) h).1
section
variable {b e : Nat} {m : TP} {p : List Int} {x : Int}
theorem nw_kept (c : m.1 = "kept") : nwF b e m p x = ksF b e m.2 (p.headD 0) (p.tail.headD 0) x := by
  unfold nwF; rw [decide_eq_true c]; rfl
theorem nw_beside (c : m.1 = "beside") : nwF b e m p x = bsF b e m.2 (p.headD 0) (p.tail.headD 0) x := by
  unfold nwF; rw [show decide (m.1 = "kept") = false by rw [c]; decide +kernel, decide_eq_true c]; rfl
theorem nw_signs (c : m.1 = "signs") : nwF b e m p x = cond (decide (0 ≤ x)) [plF b e m.2 (some (p.headD 0)) (some x), some (p.tail.headD 0)] [some (p.headD 0), plF b e m.2 (some (p.tail.headD 0)) (some x)] := by
  unfold nwF; rw [show decide (m.1 = "kept") = false by rw [c]; decide +kernel, show decide (m.1 = "beside") = false by rw [c]; decide +kernel, decide_eq_true c]; rfl
theorem nw_one (c : m.1 = "plain" ∨ m.1 = "wide1" ∨ m.1 = "wide2") : nwF b e m p x = [plF (wdF b m.1) e m.2 (some (p.headD 0)) (some x)] := by
  unfold nwF
  have k1 : decide (m.1 = "kept") = false := by rcases c with c | c | c <;> rw [c] <;> decide +kernel
  have k2 : decide (m.1 = "beside") = false := by rcases c with c | c | c <;> rw [c] <;> decide +kernel
  have k3 : decide (m.1 = "signs") = false := by rcases c with c | c | c <;> rw [c] <;> decide +kernel
  rw [k1, k2, k3]; rfl
end
theorem map_some_inj {α : Type} : ∀ {l k : List α}, l.map some = k.map some → l = k
  | [], [], _ => rfl
  | [], _ :: _, h => nomatch h
  | _ :: _, [], h => nomatch h
  | x :: l, y :: k, h => by
    rw [List.map_cons, List.map_cons] at h
    injection h with h1 h2
    injection h1 with h1
    rw [h1, map_some_inj h2]
theorem st_of {b e : Nat} {m : TP} {p q : List Int} {x : Int} (h : stF b e m p x = some q) : nwF b e m p x = q.map some ∧ (ttF b e m q).isSome = true := by
  unfold stF at h
  rcases allSome_spec (nwF b e m p x) with ⟨h1, _⟩ | ⟨k, h1, h2⟩
  · rw [h1] at h; cases h
  · rw [h1] at h
    cases c : (ttF b e m k).isNone with
    | true => simp [c] at h
    | false =>
      simp [c] at h
      subst h
      refine ⟨h2, ?_⟩
      cases z : ttF b e m k with
      | none => rw [z] at c; cases c
      | some _ => rfl
theorem pl_two {e : Nat} {m : TP} {p : List Int} (h : Pl e m p) (c : isZ m.1 = true) (cw : isW m.1 = false) (he : e ≤ 2) : ∃ t l, p = [t, l] ∧ Num 2 e t ∧ Num 2 e l := by
  have hl : p.length = 2 := by rw [h.len]; unfold bgF; rw [c]; rfl
  have hw : wdF 2 m.1 = 2 := by unfold wdF; rw [cw]; rfl
  match p, hl, h.num with
  | [t, l], _, hn => rw [hw] at hn; exact ⟨t, l, rfl, hn t List.mem_cons_self, hn l (List.mem_cons_of_mem _ List.mem_cons_self)⟩
theorem pl_one {e : Nat} {m : TP} {p : List Int} (h : Pl e m p) (c : isZ m.1 = false) : ∃ t, p = [t] ∧ Num (wdF 2 m.1) e t := by
  have hl : p.length = 1 := by rw [h.len]; unfold bgF; rw [c]; rfl
  match p, hl, h.num with
  | [t], _, hn => exact ⟨t, rfl, hn t List.mem_cons_self⟩
theorem st_pl {e : Nat} {m : TP} {p q : List Int} {x : Int} (he : e ≤ 2) (hm : Mach m) (hp : Pl e m p) (hx : Num 2 e x) (h : stF 2 e m p x = some q) : Pl e m q := by
  obtain ⟨h1, h2⟩ := st_of h
  have two : ∀ a b : Option Int, nwF 2 e m p x = [a, b] → ∃ y z, a = some y ∧ b = some z ∧ q = [y, z] := fun a b k => by
    rw [k] at h1
    match q, h1 with
    | [y, z], h1 =>
      injection h1 with h3 h4
      injection h4 with h4 _
      exact ⟨y, z, h3, h4, rfl⟩
    | [], h1 => cases h1
    | [y], h1 => injection h1 with _ h4; cases h4
    | y :: z :: u :: v, h1 => injection h1 with _ h4; injection h4 with _ h4; cases h4
  have mk2 : ∀ y z : Int, q = [y, z] → isZ m.1 = true → isW m.1 = false → Num 2 e y → Num 2 e z → (m.1 = "signs" → z ≤ 0 ∧ 0 ≤ y) → Pl e m q := fun y z eq c cw hy hz hs => by
    subst eq
    refine ⟨by unfold bgF; rw [c]; rfl, fun u hu => ?_, hs, h2⟩
    rw [show wdF 2 m.1 = 2 by unfold wdF; rw [cw]; rfl]
    rcases List.mem_cons.mp hu with rfl | hu
    · exact hy
    · rw [List.mem_singleton.mp hu]; exact hz
  have one : isZ m.1 = false → (m.1 = "plain" ∨ m.1 = "wide1" ∨ m.1 = "wide2") → Pl e m q := fun c cc => by
    obtain ⟨t, rfl, ht⟩ := pl_one hp c
    rw [nw_one cc] at h1
    have hw := wd_ge m.1
    match q, h1, h2 with
    | [y], h1, h2 =>
      injection h1 with h3 _
      have := (pl_num hw.1 hw.2 he hm.mode (ht.bd hw.1 hw.2 he) (num_bd he hx) h3).1
      exact ⟨by unfold bgF; rw [c]; rfl, fun u hu => by rw [List.mem_singleton.mp hu]; exact this, fun k => by rcases cc with cc | cc | cc <;> (rw [cc] at k; exact absurd k (by decide +kernel)), h2⟩
    | [], h1, _ => cases h1
    | y :: z :: u, h1, _ => injection h1 with _ h4; cases h4
  rcases ways_cases hm with c | c | c | c | c | c
  · have z1 : isZ m.1 = true := by rw [c]; decide +kernel
    have z2 : isW m.1 = false := by rw [c]; decide +kernel
    obtain ⟨t, l, rfl, ht, hl⟩ := pl_two hp z1 z2 he
    have gt : ONg e (some t) := .some (num_bd he ht)
    have gl : ONg e (some l) := .some (num_bd he hl)
    have gx : ONg e (some x) := .some (num_bd he hx)
    have gg : ONg e (some (cond (decide (ab x ≤ ab t)) t x)) := by cases decide (ab x ≤ ab t) <;> assumption
    have gs : ONg e (some (cond (decide (ab x ≤ ab t)) x t)) := by cases decide (ab x ≤ ab t) <;> assumption
    obtain ⟨y, z, e1, e2, eq⟩ := two _ _ (nw_beside c)
    refine mk2 y z eq z1 z2 (pl_on he hm.mode gt gx y e1) (pl_on he hm.mode gl ((pl_on he hm.mode ((pl_on he hm.mode gg ((pl_on he hm.mode gt gx).g he).neg).g he) gs).g he) z e2) fun k => ?_
    rw [c] at k
    exact absurd k (by decide +kernel)
  · have z1 : isZ m.1 = true := by rw [c]; decide +kernel
    have z2 : isW m.1 = false := by rw [c]; decide +kernel
    obtain ⟨t, l, rfl, ht, hl⟩ := pl_two hp z1 z2 he
    have gt : ONg e (some t) := .some (num_bd he ht)
    have gnt : ONg e (some (-t)) := .some (num_neg_bd he ht)
    have gnl : ONg e (some (-l)) := .some (num_neg_bd he hl)
    have gx : ONg e (some x) := .some (num_bd he hx)
    have gn := (pl_on he hm.mode gx gnl).g he
    have gla := (pl_on he hm.mode gt gn).g he
    obtain ⟨y, z, e1, e2, eq⟩ := two _ _ (nw_kept c)
    refine mk2 y z eq z1 z2 (pl_on he hm.mode gt gn y e1) (pl_on he hm.mode ((pl_on he hm.mode gla gnt).g he) gn.neg z e2) fun k => ?_
    rw [c] at k
    exact absurd k (by decide +kernel)
  · exact one (by rw [c]; decide +kernel) (.inl c)
  · have z1 : isZ m.1 = true := by rw [c]; decide +kernel
    have z2 : isW m.1 = false := by rw [c]; decide +kernel
    have hsg := hp.sgn c
    obtain ⟨t, l, rfl, ht, hl⟩ := pl_two hp z1 z2 he
    have hsg1 : l ≤ 0 := hsg.1
    have hsg2 : 0 ≤ t := hsg.2
    have k1 := nw_signs (b := 2) (e := e) (p := [t, l]) (x := x) c
    cases cx : decide (0 ≤ x) with
    | true =>
      have hx0 : 0 ≤ x := of_decide_eq_true cx
      rw [cx] at k1
      obtain ⟨y, z, e1, e2, eq⟩ := two _ _ k1
      have q1 := pl_num (b := 2) (by decide) (by decide) he hm.mode (num_bd he ht) (num_bd he hx) e1
      have e2' : l = z := Option.some.inj e2
      subst e2'
      exact mk2 y l eq z1 z2 q1.1 hl fun _ => ⟨hsg1, q1.2.1 (by omega)⟩
    | false =>
      have hx0 : ¬ 0 ≤ x := of_decide_eq_false cx
      rw [cx] at k1
      obtain ⟨y, z, e1, e2, eq⟩ := two _ _ k1
      have q1 := pl_num (b := 2) (by decide) (by decide) he hm.mode (num_bd he hl) (num_bd he hx) e2
      have e1' : t = y := Option.some.inj e1
      subst e1'
      exact mk2 t z eq z1 z2 ht q1.1 fun _ => ⟨q1.2.2 (by omega), hsg2⟩
  · exact one (by rw [c]; decide +kernel) (.inr (.inl c))
  · exact one (by rw [c]; decide +kernel) (.inr (.inr c))
theorem num0 {b e : Nat} : Num b e 0 := ⟨by
    show (0 : Int) ≤ gr b e
    unfold gr
    have := pow_pos2 b
    exact Int.mul_nonneg (by omega) (Int.le_of_lt (Int.pow_pos (by decide))), by simp, by decide, by decide⟩
theorem bg_pl {e : Nat} {m : TP} (he : e ≤ 2) (hm : Mach m) : Pl e m (bgF m) := by
  refine ⟨rfl, fun z hz => ?_, fun c => ?_, ?_⟩
  · have : z = 0 := by
      unfold bgF at hz
      cases c : isZ m.1 <;> rw [c] at hz <;> simp at hz <;> exact hz
    rw [this]; exact num0
  · unfold bgF
    cases isZ m.1 <;> decide
  · have key : ([0, 1, 2].all fun e => waysL.all fun a => modesL.all fun r => (ttF 2 e (a, r) (bgF (a, r))).isSome) = true := by decide +kernel
    have he' : e ∈ [0, 1, 2] := by
      have : e = 0 ∨ e = 1 ∨ e = 2 := by omega
      simp [this]
    exact List.all_eq_true.mp (List.all_eq_true.mp (List.all_eq_true.mp key e he') m.1 hm.way) m.2 hm.mode
end J

-- JD7
set_option Elab.async false
set_option linter.all false
set_option maxRecDepth 100000
set_option maxHeartbeats 4000000
namespace J
open PySem PySem.Spec PyProof.Rows L2
section
variable {X : Cx} {G : Gm} {S S1 S2 S3 : Sto} {a b c e : Expr} {st : Stmt} {rest body els : List Stmt} {D : DE} {pos p p2 : Pos}
theorem js1_if {k : Bool} (hc : JT X c G S k S1) (h1 : k = true → JS X body G S1 D) (h0 : k = false → JS X els G S1 D) : JS1 X (.If c body els pos) G S D := fun B σ H g sl =>
  wS_of (ps_if pt_w pss_w pss_w) (wT_mono (hc B σ H g sl) fun v H1 ⟨e, B1, w1, g1⟩ => by
    subst e
    cases v with
    | true => exact iteT (wSs_to w1 g1 (h1 rfl B1 σ H1 g1 (sl.mono w1.b)) (fun _ _ z => z) (fun _ _ z => z) (fun _ _ z => z) (fun _ _ z => z))
    | false => exact iteF (wSs_to w1 g1 (h0 rfl B1 σ H1 g1 (sl.mono w1.b)) (fun _ _ z => z) (fun _ _ z => z) (fun _ _ z => z) (fun _ _ z => z)))
theorem js_seq (Pn : Gm → Sto → Prop) (h : JS1 X st G S { D with nx := Pn }) (hr : ∀ G' S', Pn G' S' → JS X rest G' S' D) : JS X (st :: rest) G S D := js_cons (h.mono hr (fun _ _ z => z) (fun _ _ z => z) fun _ _ z => z)
theorem js_one (h : JS1 X st G S D) : JS X [st] G S D := js_cons (h.mono (fun _ _ z => js_nil z) (fun _ _ z => z) (fun _ _ z => z) fun _ _ z => z)
end
section
variable {P : Program} {w : World} {K : PySem.W.Frag} {mg : Str → Option Value} {base : Heap}
theorem isN_oI (x : Option Int) : isN (oI x) = x.isNone := by cases x <;> rfl
theorem isN_opD (x : Option (List Int)) : isN (opD x) = x.isNone := by cases x <;> rfl
def rStep : Rel := fun ds S r S' => ∃ (e : Nat) (m : TP) (p : List Int) (x : Int), ds = [.d (fD 2 e), .d (pD m), .d (plD p), .d (.int x)] ∧ e ≤ 2 ∧ Mach m ∧ Pl e m p ∧ Num 2 e x ∧ r = .d (opD (stF 2 e m p x)) ∧ S' = S
theorem ok_step (T : Tab K mg) : Ok P w base T.step 8 rStep := fn_j T.step.F sc_step (fun _ _ _ _ ⟨_, _, _, _, e, _⟩ => by rw [e]; rfl) fun cdv A outer s H E hr ds S r S' ⟨e, m, p, x, e1, he, hm, hp, hx, er, eS⟩ => by
  subst e1 er eS
  have h7 : Room 7 _ := hr.mono (by decide)
  have h6 : Room 6 _ := hr.mono (by decide)
  have hxb := hx.b2 (by decide) (by decide) he
  refine js_unpack (js := [4, 5]) (vr 1) (jg_tup (ds := [.str m.1, .str m.2]) rfl (jgs_cons (jg_name (i := 4) sc_step.nd rfl) (jgs_cons (jg_name (i := 5) sc_step.nd rfl) jgs_nil))) ?_
  refine js_seq (fun G S => S = S' ∧ ∃ g7 g8, G = [some (.d (fD 2 e)), some (.d (pD m)), some (.d (plD p)), some (.d (.int x)), some (.d (.str m.1)), some (.d (.str m.2)), some (.d (.tuple ((nwF 2 e m p x).map oI))), g7, g8]) ?_ ?_
  · refine js1_if (jt_cmp op_eq (vr 4) je_str rj_eqS) (fun h => ?_) fun h => ?_
    · have c : m.1 = "kept" := of_decide_eq_true h
      obtain ⟨t, l, rfl, ht, hl⟩ := pl_two hp (by rw [c]; decide +kernel) (by rw [c]; decide +kernel) he
      refine js_set (i := 6) sc_step.nd rfl (je_call (ok_kept T) h7 (ja_cons (vr 0) (a3 (vr 5) (vr 2) (vr 3))) ⟨2, e, m.2, t, l, x, rfl, by decide, by omega, ht.b2 (by decide) (by decide) he, hl.b2 (by decide) (by decide) he, hxb, rfl, rfl⟩) (js_nil ⟨rfl, none, none, ?_⟩)
      rw [nw_kept c]; rfl
    have n1 : ¬ m.1 = "kept" := of_decide_eq_false h
    refine js_one (js1_if (jt_cmp op_eq (vr 4) je_str rj_eqS) (fun h => ?_) fun h => ?_)
    · have c : m.1 = "beside" := of_decide_eq_true h
      obtain ⟨t, l, rfl, ht, hl⟩ := pl_two hp (by rw [c]; decide +kernel) (by rw [c]; decide +kernel) he
      refine js_set (i := 6) sc_step.nd rfl (je_call (ok_beside T) h7 (ja_cons (vr 0) (a3 (vr 5) (vr 2) (vr 3))) ⟨2, e, m.2, t, l, x, rfl, by decide, by omega, ht.b2 (by decide) (by decide) he, hl.b2 (by decide) (by decide) he, hxb, rfl, rfl⟩) (js_nil ⟨rfl, none, none, ?_⟩)
      rw [nw_beside c]; rfl
    have n2 : ¬ m.1 = "beside" := of_decide_eq_false h
    refine js_one (js1_if (jt_cmp op_eq (vr 4) je_str rj_eqS) (fun h => ?_) fun h => ?_)
    · have c : m.1 = "signs" := of_decide_eq_true h
      obtain ⟨t, l, rfl, ht, hl⟩ := pl_two hp (by rw [c]; decide +kernel) (by rw [c]; decide +kernel) he
      have htb := ht.b2 (by decide) (by decide) he
      have hlb := hl.b2 (by decide) (by decide) he
      refine js_unpack (js := [7, 8]) (vr 2) (jg_tup (ds := [.int t, .int l]) rfl (jgs_cons (jg_name (i := 7) sc_step.nd rfl) (jgs_cons (jg_name (i := 8) sc_step.nd rfl) jgs_nil))) ?_
      refine js_one (js1_if (jt_cmp op_ge (vr 3) je_int rj_ge) (fun h => ?_) fun h => ?_)
      · refine js_set (i := 6) sc_step.nd rfl (je_tup (ds := [oI (plF 2 e m.2 (some t) (some x)), .int l]) (a2 (je_call (ok_plus T) h6 (ja_cons (vr 0) (a3 (vr 5) (vr 7) (vr 3))) ⟨2, e, m.2, some t, some x, rfl, by decide, by omega, htb.bd, hxb.bd, rfl, rfl⟩) (vr 8))) (js_nil ⟨rfl, some (.d (.int t)), some (.d (.int l)), ?_⟩)
        rw [nw_signs c, h]; rfl
      · refine js_set (i := 6) sc_step.nd rfl (je_tup (ds := [.int t, oI (plF 2 e m.2 (some l) (some x))]) (a2 (vr 7) (je_call (ok_plus T) h6 (ja_cons (vr 0) (a3 (vr 5) (vr 8) (vr 3))) ⟨2, e, m.2, some l, some x, rfl, by decide, by omega, hlb.bd, hxb.bd, rfl, rfl⟩))) (js_nil ⟨rfl, some (.d (.int t)), some (.d (.int l)), ?_⟩)
        rw [nw_signs c, h]; rfl
    have n3 : ¬ m.1 = "signs" := of_decide_eq_false h
    have c : m.1 = "plain" ∨ m.1 = "wide1" ∨ m.1 = "wide2" := by
      rcases ways_cases hm with c | c | c | c | c | c
      · exact absurd c n2
      · exact absurd c n1
      · exact .inl c
      · exact absurd c n3
      · exact .inr (.inl c)
      · exact .inr (.inr c)
    have z1 : isZ m.1 = false := by rcases c with c | c | c <;> rw [c] <;> decide +kernel
    obtain ⟨t, rfl, ht⟩ := pl_one hp z1
    have hw := wd_ge m.1
    refine js_set (i := 6) sc_step.nd rfl (je_tup (ds := [oI (plF (wdF 2 m.1) e m.2 (some t) (some x))]) (a1 (je_call (ok_plus T) h6 (ja_cons (je_call (ok_wider T) (hr.mono (by decide)) (a2 (vr 0) (vr 4)) ⟨2, e, m.1, rfl, rfl, rfl⟩) (a3 (vr 5) (ixT (d := .int t) (vr 2) at0) (vr 3))) ⟨wdF 2 m.1, e, m.2, some t, some x, rfl, by omega, by omega, (ht.b2 hw.1 hw.2 he).bd, hxb.bd, rfl, rfl⟩))) (js_nil ⟨rfl, none, none, ?_⟩)
    rw [nw_one c]; rfl
  · rintro G' S2 ⟨rfl, g7, g8, rfl⟩
    rcases allSome_spec (nwF 2 e m p x) with ⟨a1', a2'⟩ | ⟨k, a1', a2'⟩
    · have hst : stF 2 e m p x = none := by unfold stF; rw [a1']
      refine js_ret (je_ifT (jt_w (jw_or (k := true) (jt_cmp op_in_seq je_non (vr 6) (JRis (rj_inT .non (oI_flat _) rfl (oV_flat _)) ?_)) (fun _ => rfl) fun h => nomatch h)) je_non) ⟨?_, .refl _⟩
      · rw [inV_non, decide_eq_true a2']; rfl
      · rw [hst]; exact .refl _
    · have hnn : none ∉ nwF 2 e m p x := by
        rw [a2']
        intro z
        obtain ⟨y, _, hy⟩ := List.mem_map.mp z
        cases hy
      have hin : ∀ {W : Wd}, RJ W (rIn W.K false) (.d .none) (.d (.tuple ((nwF 2 e m p x).map oI))) S2 (.d (.bool false)) S2 := fun {W} => JRis (rj_inT .non (oI_flat _) rfl (oV_flat _)) (by rw [inV_non, decide_eq_false hnn]; rfl)
      have ek : ((nwF 2 e m p x).map oI) = k.map PyData.int := by rw [a2', List.map_map]; rfl
      -- a made place's length and bounds
      have hk : k.length = (bgF m).length ∧ ∀ z ∈ k, B2 z := by
        have hlen : k.length = (nwF 2 e m p x).length := by rw [a2', List.length_map]
        have bd : ∀ {b : Nat} (x y : Option Int) (z : Int), b ≤ 4 → plF b e m.2 x y = some z → B2 z := fun x y z hb h => by
          have := plF_bd hb (show e ≤ 3 by omega) x y z h
          exact ⟨by omega, by omega⟩
        have mem : ∀ z ∈ k, some z ∈ nwF 2 e m p x := fun z hz => by rw [a2']; exact List.mem_map.mpr ⟨z, hz, rfl⟩
        rcases ways_cases hm with c | c | c | c | c | c
        · have z1 : isZ m.1 = true := by rw [c]; decide +kernel
          rw [nw_beside c] at hlen mem
          refine ⟨by rw [hlen]; unfold bgF; rw [z1]; rfl, fun z hz => ?_⟩
          rcases List.mem_cons.mp (mem z hz) with h | h
          · exact bd _ _ z (by decide) h.symm
          · exact bd _ _ z (by decide) (List.mem_singleton.mp h).symm
        · have z1 : isZ m.1 = true := by rw [c]; decide +kernel
          rw [nw_kept c] at hlen mem
          refine ⟨by rw [hlen]; unfold bgF; rw [z1]; rfl, fun z hz => ?_⟩
          rcases List.mem_cons.mp (mem z hz) with h | h
          · exact bd _ _ z (by decide) h.symm
          · exact bd _ _ z (by decide) (List.mem_singleton.mp h).symm
        · have z1 : isZ m.1 = false := by rw [c]; decide +kernel
          rw [nw_one (.inl c)] at hlen mem
          refine ⟨by rw [hlen]; unfold bgF; rw [z1]; rfl, fun z hz => bd _ _ z (wd_ge _).2 (List.mem_singleton.mp (mem z hz)).symm⟩
        · have z1 : isZ m.1 = true := by rw [c]; decide +kernel
          obtain ⟨t, l, rfl, ht, hl⟩ := pl_two hp z1 (by rw [c]; decide +kernel) he
          rw [nw_signs c] at hlen mem
          cases cx : decide (0 ≤ x) with
          | true =>
            rw [cx] at hlen mem
            refine ⟨by rw [hlen]; unfold bgF; rw [z1]; rfl, fun z hz => ?_⟩
            rcases List.mem_cons.mp (mem z hz) with h | h
            · exact bd _ _ z (by decide) h.symm
            · have := List.mem_singleton.mp h
              cases this
              exact hl.b2 (by decide) (by decide) he
          | false =>
            rw [cx] at hlen mem
            refine ⟨by rw [hlen]; unfold bgF; rw [z1]; rfl, fun z hz => ?_⟩
            rcases List.mem_cons.mp (mem z hz) with h | h
            · cases h
              exact ht.b2 (by decide) (by decide) he
            · exact bd _ _ z (by decide) (List.mem_singleton.mp h).symm
        · have z1 : isZ m.1 = false := by rw [c]; decide +kernel
          rw [nw_one (.inr (.inl c))] at hlen mem
          refine ⟨by rw [hlen]; unfold bgF; rw [z1]; rfl, fun z hz => bd _ _ z (wd_ge _).2 (List.mem_singleton.mp (mem z hz)).symm⟩
        · have z1 : isZ m.1 = false := by rw [c]; decide +kernel
          rw [nw_one (.inr (.inr c))] at hlen mem
          refine ⟨by rw [hlen]; unfold bgF; rw [z1]; rfl, fun z hz => bd _ _ z (wd_ge _).2 (List.mem_singleton.mp (mem z hz)).symm⟩
      refine js_ret (je_if (r := .d (opD (stF 2 e m p x))) (k := (ttF 2 e m k).isNone) (jt_w (jw_or (jt_cmp op_in_seq je_non (vr 6) hin) (fun h => nomatch h) fun _ => jw_or1 (JT.is (jt_cmp op_isN (je_call (ok_told T) h7 (a3 (vr 0) (vr 1) (JE.is (vr 6) (by rw [ek]))) ⟨2, e, m, k, rfl, by decide, by omega, hk.1, hk.2, hm, rfl, rfl⟩) je_non rj_isN) (isN_oI _)))) (fun h => JE.is je_non ?_) fun h => JE.is (vr 6) ?_) ⟨.refl _, .refl _⟩
      · rw [show stF 2 e m p x = none by unfold stF; rw [a1']; simp [h]]
      · rw [show stF 2 e m p x = some k by unfold stF; rw [a1']; simp [h], ek]
end
end J

-- JD8
set_option Elab.async false
set_option linter.all false
set_option maxRecDepth 100000
set_option maxHeartbeats 4000000
namespace J
open PySem PySem.Spec PyProof.Rows L2
theorem ints_get {l : List Int} {i : Nat} {d : PyData} (h : (l.map PyData.int)[i]? = some d) : ∃ z, z ∈ l ∧ d = .int z := by
  rw [List.getElem?_map] at h
  obtain ⟨z, hz, rfl⟩ := Option.map_eq_some_iff.mp h
  exact ⟨z, List.mem_of_getElem? hz, rfl⟩
/-- places, one after another -/
def nxF (e : Nat) (m : TP) (p : Option (List Int)) (x : Int) : Option (List Int) := p.bind fun p => stF 2 e m p x
def runF (e : Nat) (m : TP) : Option (List Int) → List Int → List (Option (List Int))
  | _, [] => []
  | p, x :: r => nxF e m p x :: runF e m (nxF e m p x) r
def seF (e : Nat) (m : TP) (p : Option (List Int)) : Option Int := p.bind fun p => ttF 2 e m p
def OPl (e : Nat) (m : TP) (p : Option (List Int)) : Prop := ∀ q, p = some q → Pl e m q
theorem nx_pl {e : Nat} {m : TP} {p : Option (List Int)} {x : Int} (he : e ≤ 2) (hm : Mach m) (hp : OPl e m p) (hx : Num 2 e x) : OPl e m (nxF e m p x) := fun q h => by
  cases p with
  | none => cases h
  | some p => exact st_pl he hm (hp p rfl) hx h
theorem run_len {e : Nat} {m : TP} : ∀ (row : List Int) (p : Option (List Int)), (runF e m p row).length = row.length
  | [], _ => rfl
  | x :: r, p => congrArg (· + 1) (run_len r _)
theorem run_pl {e : Nat} {m : TP} (he : e ≤ 2) (hm : Mach m) : ∀ (row : List Int) (p : Option (List Int)), OPl e m p → (∀ x ∈ row, Num 2 e x) → ∀ q ∈ runF e m p row, OPl e m q
  | [], _, _, _, q, hq => by cases hq
  | x :: r, p, hp, hr, q, hq => by
    have h1 := nx_pl he hm hp (hr x List.mem_cons_self)
    rcases List.mem_cons.mp hq with rfl | hq
    · exact h1
    · exact run_pl he hm r _ h1 (fun y hy => hr y (List.mem_cons_of_mem _ hy)) q hq
section
variable {P : Program} {w : World} {K : PySem.W.Frag} {mg : Str → Option Value} {base : Heap}
def rIsPlace : Rel := fun ds S r S' => ∃ (e : Nat) (m : TP) (p : List Int), ds = [.d (fD 2 e), .d (pD m), .d (plD p)] ∧ e ≤ 2 ∧ Mach m ∧ Pl e m p ∧ r = .d (.bool true) ∧ S' = S
theorem ok_is_place (T : Tab K mg) : Ok P w base T.is_place 8 rIsPlace := fn_j T.is_place.F sc_is_place (fun _ _ _ _ ⟨_, _, _, e, _⟩ => by rw [e]; rfl) fun cdv A outer s H E hr ds S r S' ⟨e, m, p, e1, he, hm, hp, er, eS⟩ => by
  subst e1 er eS
  have hz : (p.map PyData.int).length < sizeLine := by
    rw [List.length_map, hp.len]
    unfold bgF
    cases isZ m.1 <;> simp [sizeLine_eq]
  refine js_no (jt_w (jw_or (jt_notT (je_isi T.b_isinstance (vr 2) kit_tup_tup T.b_tuple PyProof.Rows.boot_tuple)) (fun h => nomatch h) fun _ => jw_or1 (jt_cmp op_ne (je_lenT T.b_len (vr 2)) (je_lenT T.b_len (je_call (ok_begun T) (hr.mono (by decide)) (a1 (vr 1)) ⟨m, rfl, rfl, rfl⟩)) (JRis (k' := false) rj_neI (by simp [hp.len]))))) ?_
  refine js_set (i := 3) sc_is_place.nd rfl (je_call (ok_wider T) (hr.mono (by decide)) (a2 (vr 0) (ixT (vr 1))) ⟨2, e, m.1, rfl, rfl, rfl⟩) ?_
  refine js_no (jt_notT (je_allT [("one", 4)] T.b_all sc_is_place.nd (blkOk_by (N := n_is_place) (sc := defScope s_is_place) (by decide +kernel)) (ji_tup (vr 2)) hz trivial fun i d hd => ⟨[4], _, by decide, fun s H C cl fp => jg_name (i := 4) sc_is_place.nd rfl, fun s H C cl fp => ?_⟩)) ?_
  · obtain ⟨z, hz', rfl⟩ := ints_get hd
    exact je_and (je_isi T.b_isinstance (vr 4) kit_int_int T.b_int PyProof.Rows.boot_int) (fun h => nomatch h) fun _ => je_one (je_not (je_isi T.b_isinstance (vr 4) kit_int_bool T.b_bool PyProof.Rows.boot_bool))
  refine js_no (jt_notT (je_allT [("one", 4)] T.b_all sc_is_place.nd (blkOk_by (N := n_is_place) (sc := defScope s_is_place) (by decide +kernel)) (ji_tup (vr 2)) hz trivial fun i d hd => ⟨[4], _, by decide, fun s H C cl fp => jg_name (i := 4) sc_is_place.nd rfl, fun s H C cl fp => ?_⟩)) ?_
  · obtain ⟨z, hz', rfl⟩ := ints_get hd
    have hw := wd_ge m.1
    exact je_call (ok_is_num T) (hr.mono (by decide)) (a2 (vr 3) (vr 4)) ⟨wdF 2 m.1, e, z, rfl, by omega, by omega, hp.num z hz', rfl, rfl⟩
  refine js_no (jt_w (jw_and (k := decide (m.1 = "signs")) (jt_cmp op_eq (ixT (vr 1)) je_str rj_eqS) (fun _ => rfl) fun h => jw_and1 ?_)) ?_
  · have c : m.1 = "signs" := of_decide_eq_true h
    obtain ⟨t, l, rfl, ht, hl⟩ := pl_two hp (by rw [c]; decide +kernel) (by rw [c]; decide +kernel) he
    have hs := hp.sgn c
    have h1 : l ≤ 0 := hs.1
    have h2 : 0 ≤ t := hs.2
    refine jt_not (k := true) (jt_chain (pt_chain op_le op_le pe_w pe_w pe_w) (ixT (d := .int l) (vr 2)) je_int (rj_le (i := l) (j := 0)) (fun h => absurd h1 (of_decide_eq_false h)) fun _ => ⟨ixT (d := .int t) (vr 2), JRis (rj_le (i := 0) (j := t)) (decide_eq_true h2)⟩)
  · refine js_ret (JE.is (je_cmp op_notN (je_call (ok_told T) (hr.mono (by decide)) (a3 (vr 0) (vr 1) (vr 2)) ⟨2, e, m, p, rfl, by decide, by omega, hp.len, hp.b2 he, hm, rfl, rfl⟩) je_non rj_notN) ?_) ⟨.refl _, .refl _⟩
    rw [isN_oI]
    have := hp.tot
    cases c : ttF 2 e m p with
    | none => rw [c] at this; cases this
    | some _ => rfl
def rNeedPlace : Rel := fun ds S r S' => ∃ (e : Nat) (m : TP) (p : List Int), ds = [.d (fD 2 e), .d (pD m), .d (plD p)] ∧ e ≤ 2 ∧ Mach m ∧ Pl e m p ∧ r = .d .none ∧ S' = S
theorem ok_need_place (T : Tab K mg) : Ok P w base T.need_place 9 rNeedPlace := fn_j T.need_place.F sc_need_place (fun _ _ _ _ ⟨_, _, _, e, _⟩ => by rw [e]; rfl) fun cdv A outer s H E hr ds S r S' ⟨e, m, p, e1, he, hm, hp, er, eS⟩ => by
  subst e1 er eS
  exact js_no (jt_notT (je_call (ok_is_place T) (hr.mono (by decide)) (a3 (vr 0) (vr 1) (vr 2)) ⟨e, m, p, rfl, he, hm, hp, rfl, rfl⟩)) (js_nil ⟨.refl _, .refl _⟩)
theorem fm2 {e : Nat} (he : e ≤ 2) : Fm 2 e := ⟨by decide, by decide, by omega⟩
def rNext : Rel := fun ds S r S' => ∃ (e : Nat) (m : TP) (p : List Int) (x : Int), ds = [.d (fD 2 e), .d (pD m), .d (plD p), .d (.int x)] ∧ e ≤ 2 ∧ Mach m ∧ Pl e m p ∧ Num 2 e x ∧ r = .d (opD (stF 2 e m p x)) ∧ S' = S
theorem ok_next (T : Tab K mg) : Ok P w base T.next_place 10 rNext := fn_j T.next_place.F sc_next_place (fun _ _ _ _ ⟨_, _, _, _, e, _⟩ => by rw [e]; rfl) fun cdv A outer s H E hr ds S r S' ⟨e, m, p, x, e1, he, hm, hp, hx, er, eS⟩ => by
  subst e1 er eS
  refine js_expr (je_call (ok_need_mach T) (hr.mono (by decide)) (a2 (vr 0) (vr 1)) ⟨2, e, m, rfl, fm2 he, hm, rfl, rfl⟩) ?_
  refine js_expr (je_call (ok_need_place T) (hr.mono (by decide)) (a3 (vr 0) (vr 1) (vr 2)) ⟨e, m, p, rfl, he, hm, hp, rfl, rfl⟩) ?_
  refine js_no (jt_notT (je_call (ok_is_num T) (hr.mono (by decide)) (a2 (vr 0) (vr 3)) ⟨2, e, x, rfl, by decide, by omega, hx, rfl, rfl⟩)) ?_
  exact js_ret (je_call (ok_step T) (hr.mono (by decide)) (ja_cons (vr 0) (a3 (vr 1) (vr 2) (vr 3))) ⟨e, m, p, x, rfl, he, hm, hp, hx, rfl, rfl⟩) ⟨.refl _, .refl _⟩
def rTotAt : Rel := fun ds S r S' => ∃ (e : Nat) (m : TP) (p : List Int), ds = [.d (fD 2 e), .d (pD m), .d (plD p)] ∧ e ≤ 2 ∧ Mach m ∧ Pl e m p ∧ r = .d (oI (ttF 2 e m p)) ∧ S' = S
theorem ok_tot_at (T : Tab K mg) : Ok P w base T.total_at 10 rTotAt := fn_j T.total_at.F sc_total_at (fun _ _ _ _ ⟨_, _, _, e, _⟩ => by rw [e]; rfl) fun cdv A outer s H E hr ds S r S' ⟨e, m, p, e1, he, hm, hp, er, eS⟩ => by
  subst e1 er eS
  refine js_expr (je_call (ok_need_mach T) (hr.mono (by decide)) (a2 (vr 0) (vr 1)) ⟨2, e, m, rfl, fm2 he, hm, rfl, rfl⟩) ?_
  refine js_expr (je_call (ok_need_place T) (hr.mono (by decide)) (a3 (vr 0) (vr 1) (vr 2)) ⟨e, m, p, rfl, he, hm, hp, rfl, rfl⟩) ?_
  exact js_ret (je_call (ok_told T) (hr.mono (by decide)) (a3 (vr 0) (vr 1) (vr 2)) ⟨2, e, m, p, rfl, by decide, by omega, hp.len, hp.b2 he, hm, rfl, rfl⟩) ⟨.refl _, .refl _⟩
/-! ### rows -/
abbrev rowD (row : List Int) : PyData := .list (row.map .int)
def rIsRow : Rel := fun ds S r S' => ∃ (e : Nat) (row : List Int), ds = [.d (fD 2 e), .d (rowD row)] ∧ e ≤ 2 ∧ row.length ≤ 40 ∧ (∀ x ∈ row, Num 2 e x) ∧ r = .d (.bool true) ∧ S' = S
theorem ok_is_row (T : Tab K mg) : Ok P w base T.is_row_of 5 rIsRow := fn_j T.is_row_of.F sc_is_row_of (fun _ _ _ _ ⟨_, _, e, _⟩ => by rw [e]; rfl) fun cdv A outer s H E hr ds S r S' ⟨e, row, e1, he, hl, hn, er, eS⟩ => by
  subst e1 er eS
  obtain ⟨u, g1, r1⟩ := T.cLONG
  refine js_ret (je_and (je_isi T.b_isinstance (vr 1) kit_list_list T.b_list PyProof.Rows.boot_list) (fun h => nomatch h) fun _ => je_and (k := true) (JE.is (je_cmp op_le (je_lenL T.b_len (vr 1) .d) (je_glob (d := .int 40) rfl g1 r1 fun _ => .int 40) rj_le) (by rw [decide_eq_true (by rw [List.length_map]; omega)])) (fun h => nomatch h) fun _ => je_one ?_) ⟨.refl _, .refl _⟩
  refine je_allT [("one", 2)] T.b_all sc_is_row_of.nd (blkOk_by (N := n_is_row_of) (sc := defScope s_is_row_of) (by decide +kernel)) (ji_list (vr 1)) (by rw [List.length_map, sizeLine_eq]; omega) trivial fun i d hd => ⟨[2], _, by decide, fun s H C cl fp => jg_name (i := 2) sc_is_row_of.nd rfl, fun s H C cl fp => ?_⟩
  obtain ⟨z, hz', rfl⟩ := ints_get hd
  exact je_call (ok_is_num T) (hr.mono (by decide)) (a2 (vr 0) (vr 2)) ⟨2, e, z, rfl, by decide, by omega, hn z hz', rfl, rfl⟩
def rRun : Rel := fun ds S r S' => ∃ (e : Nat) (m : TP) (row : List Int), ds = [.d (fD 2 e), .d (pD m), .d (rowD row)] ∧ e ≤ 2 ∧ Mach m ∧ row.length ≤ 40 ∧ (∀ x ∈ row, Num 2 e x) ∧ r = .d (.list ((runF e m (some (bgF m)) row).map opD)) ∧ S' = S
/-- the place behind the first i numbers -/
def atF (e : Nat) (m : TP) (p : Option (List Int)) (row : List Int) (i : Nat) : Option (List Int) := (row.take i).foldl (nxF e m) p
theorem run_take {e : Nat} {m : TP} : ∀ (row : List Int) (p : Option (List Int)) (i : Nat) (x : Int), row[i]? = some x → (runF e m p row).take (i + 1) = (runF e m p row).take i ++ [nxF e m (atF e m p row i) x] ∧ atF e m p row (i + 1) = nxF e m (atF e m p row i) x
  | [], p, i, x, h => by simp at h
  | y :: r, p, 0, x, h => by
    simp at h; subst h
    exact ⟨rfl, rfl⟩
  | y :: r, p, i + 1, x, h => by
    obtain ⟨h1, h2⟩ := run_take r (nxF e m p y) i x (by simpa using h)
    refine ⟨?_, h2⟩
    show nxF e m p y :: (runF e m (nxF e m p y) r).take (i + 1) = nxF e m p y :: (runF e m (nxF e m p y) r).take i ++ _
    rw [h1]
    rfl
theorem at_pl {e : Nat} {m : TP} (he : e ≤ 2) (hm : Mach m) : ∀ (row : List Int) (p : Option (List Int)) (i : Nat), OPl e m p → (∀ x ∈ row, Num 2 e x) → OPl e m (atF e m p row i)
  | [], p, i, hp, _ => by unfold atF; simp; exact hp
  | x :: r, p, 0, hp, _ => hp
  | x :: r, p, i + 1, hp, hr => at_pl he hm r (nxF e m p x) i (nx_pl he hm hp (hr x List.mem_cons_self)) fun y hy => hr y (List.mem_cons_of_mem _ hy)
theorem ok_run (T : Tab K mg) : Ok P w base T.run 9 rRun := fn_j T.run.F sc_run (fun _ _ _ _ ⟨_, _, _, e, _⟩ => by rw [e]; rfl) fun cdv A outer s H E hr ds S r S' ⟨e, m, row, e1, he, hm, hl, hn, er, eS⟩ => by
  subst e1 er eS
  refine js_pr 3 4 sc_run.nd (jax_cons (je_call (ok_begun T) (hr.mono (by decide)) (a1 (vr 1)) ⟨m, rfl, rfl, rfl⟩) (jax_new (jn_lst (ds := []) ja_nil) fun f hf => jax_nil ⟨_, _, rfl, ?_⟩))
  refine js_for (fun i G S => S = sset S' f (.lst (((runF e m (some (bgF m)) row).take i).map opD)) ∧ ∃ t, G = [some (.d (fD 2 e)), some (.d (pD m)), some (.d (rowD row)), some (.d (opD (atF e m (some (bgF m)) row i))), some (.o f), t]) PassesOwn.never rfl (ji_list (vr 2)) ⟨rfl, none, rfl⟩ (fun _ _ _ _ => trivial) ?_ ?_
  · rintro i d G' S2 hd ⟨rfl, t, rfl⟩
    rw [List.getElem?_map] at hd
    obtain ⟨x, hx, rfl⟩ := Option.map_eq_some_iff.mp hd
    have hxn := hn x (List.mem_of_getElem? hx)
    have hi : i < row.length := (List.getElem?_eq_some_iff.mp hx).1
    obtain ⟨h1, h2⟩ := run_take (e := e) (m := m) row (some (bgF m)) i x hx
    have hat := at_pl he hm row (some (bgF m)) i (fun q h => by cases h; exact bg_pl he hm) hn
    refine ⟨[5], _, jg_name (i := 5) sc_run.nd rfl, ?_⟩
    refine js_set (i := 3) (S1 := sset S' f (.lst (((runF e m (some (bgF m)) row).take i).map opD))) (w := .d (opD (nxF e m (atF e m (some (bgF m)) row i) x))) sc_run.nd rfl ?_ ?_
    · cases c : atF e m (some (bgF m)) row i with
      | none => exact je_ifF (JT.is (jt_cmp op_notN (vr 3) je_non rj_notN) rfl) je_non
      | some q =>
        exact je_ifT (JT.is (jt_cmp op_notN (vr 3) je_non rj_notN) rfl) (je_call (ok_step T) (hr.mono (by decide)) (ja_cons (vr 0) (a3 (vr 1) (vr 3) (vr 5))) ⟨e, m, q, x, rfl, he, hm, hat q c, hxn, rfl, rfl⟩)
    · refine js_expr (je_append (pe_bm PySem.F.plainAttrs_list PySem.F.slot_list_append PySem.F.type_list_append mt_append pe_w pa_w) (vr 4) ⟨_, sset_same⟩ (a1 (vr 3)) sset_same ?_) (js_nil ⟨?_, some (.d (.int x)), ?_⟩)
      · rw [List.length_map, List.length_take, sizeLine_eq]; omega
      · rw [sset_sset, h1, List.map_append]; rfl
      · rw [h2]; rfl
  · rintro G' S2 ⟨rfl, t, rfl⟩
    refine js_ret (JE.frzO (vr 4) sset_same) ⟨?_, ?_⟩
    · rw [List.length_map, List.take_of_length_le (by rw [run_len]; exact Nat.le_refl _)]
      exact .refl _
    · rw [sdel_sset hf]; exact .refl _
/-! ### totals -/
def tolF (e : Nat) (m : TP) (row : List Int) : List (Option Int) := (runF e m (some (bgF m)) row).map (seF e m)
def rTotals : Rel := fun ds S r S' => ∃ (e : Nat) (m : TP) (row : List Int), ds = [.d (fD 2 e), .d (pD m), .d (rowD row)] ∧ e ≤ 2 ∧ Mach m ∧ row.length ≤ 40 ∧ (∀ x ∈ row, Num 2 e x) ∧ r = .d (.list ((tolF e m row).map oI)) ∧ S' = S
theorem ok_totals_of (T : Tab K mg) : Ok P w base T.totals_of 10 rTotals := fn_j T.totals_of.F sc_totals_of (fun _ _ _ _ ⟨_, _, _, e, _⟩ => by rw [e]; rfl) fun cdv A outer s H E hr ds S r S' ⟨e, m, row, e1, he, hm, hl, hn, er, eS⟩ => by
  subst e1 er eS
  have hp := run_pl he hm row (some (bgF m)) (fun q h => by cases h; exact bg_pl he hm) hn
  refine js_ret (JE.frz (jn_map (rs := (tolF e m row).map oI) [("place", 3)] sc_totals_of.nd (blkOk_by (N := n_totals_of) (sc := defScope s_totals_of) (by decide +kernel)) (ji_list (je_call (ok_run T) (hr.mono (by decide)) (a3 (vr 0) (vr 1) (vr 2)) ⟨e, m, row, rfl, he, hm, hl, hn, rfl, rfl⟩)) (by unfold tolF; simp) (by rw [List.length_map, run_len, sizeLine_eq]; omega) trivial fun i d hd => ?_)) ⟨.refl _, .refl _⟩
  rw [List.getElem?_map] at hd
  obtain ⟨q, hq, rfl⟩ := Option.map_eq_some_iff.mp hd
  refine ⟨[3], _, oI (seF e m q), by decide, fun s H C cl fp => jg_name (i := 3) sc_totals_of.nd rfl, fun s H C cl fp => ?_, ?_⟩
  · cases q with
    | none => exact je_ifT (jt_cmp op_isN (vr 3) je_non rj_isN) je_non
    | some q =>
      have hpl := hp (some q) (List.mem_of_getElem? hq) q rfl
      exact je_ifF (jt_cmp op_isN (vr 3) je_non rj_isN) (je_call (ok_told T) (hr.mono (by decide)) (a3 (vr 0) (vr 1) (vr 3)) ⟨2, e, m, q, rfl, by decide, by omega, hpl.len, hpl.b2 he, hm, rfl, rfl⟩)
  · unfold tolF
    rw [List.getElem?_map, List.getElem?_map, hq]
    rfl
def rNeedRow : Rel := fun ds S r S' => ∃ (e : Nat) (m : TP) (row : List Int), ds = [.d (fD 2 e), .d (pD m), .d (rowD row)] ∧ e ≤ 2 ∧ Mach m ∧ row.length ≤ 40 ∧ (∀ x ∈ row, Num 2 e x) ∧ r = .d .none ∧ S' = S
theorem ok_need_row (T : Tab K mg) : Ok P w base T.need_row 6 rNeedRow := fn_j T.need_row.F sc_need_row (fun _ _ _ _ ⟨_, _, _, e, _⟩ => by rw [e]; rfl) fun cdv A outer s H E hr ds S r S' ⟨e, m, row, e1, he, hm, hl, hn, er, eS⟩ => by
  subst e1 er eS
  refine js_expr (je_call (ok_need_mach T) (hr.mono (by decide)) (a2 (vr 0) (vr 1)) ⟨2, e, m, rfl, fm2 he, hm, rfl, rfl⟩) ?_
  exact js_no (jt_notT (je_call (ok_is_row T) (hr.mono (by decide)) (a2 (vr 0) (vr 2)) ⟨e, row, rfl, he, hl, hn, rfl, rfl⟩)) (js_nil ⟨.refl _, .refl _⟩)
theorem ok_totals (T : Tab K mg) : Ok P w base T.totals 11 rTotals := fn_j T.totals.F sc_totals (fun _ _ _ _ ⟨_, _, _, e, _⟩ => by rw [e]; rfl) fun cdv A outer s H E hr ds S r S' ⟨e, m, row, e1, he, hm, hl, hn, er, eS⟩ => by
  subst e1 er eS
  refine js_expr (je_call (ok_need_row T) (hr.mono (by decide)) (a3 (vr 0) (vr 1) (vr 2)) ⟨e, m, row, rfl, he, hm, hl, hn, rfl, rfl⟩) ?_
  exact js_ret (je_call (ok_totals_of T) (hr.mono (by decide)) (a3 (vr 0) (vr 1) (vr 2)) ⟨e, m, row, rfl, he, hm, hl, hn, rfl, rfl⟩) ⟨.refl _, .refl _⟩
/-! ### lots -/
abbrev lotD (lot : List Int) : PyData := .tuple (lot.map .int)
structure Lot (e : Nat) (lot : List Int) : Prop where
  ne : lot ≠ []
  len : lot.length ≤ 4
  num : ∀ x ∈ lot, Num 2 e x
  ord : lot.Pairwise (· < ·)
def rIsLot : Rel := fun ds S r S' => ∃ (e : Nat) (lot : List Int), ds = [.d (fD 2 e), .d (lotD lot)] ∧ e ≤ 2 ∧ Lot e lot ∧ r = .d (.bool true) ∧ S' = S
theorem zip_next {α : Type} {R : α → α → Prop} {l : List α} (h : l.Pairwise R) {i : Nat} {x y : α} (hx : l[i]? = some x) (hy : (l.drop 1)[i]? = some y) : R x y := by
  rw [List.getElem?_drop] at hy
  obtain ⟨h1, e1⟩ := List.getElem?_eq_some_iff.mp hx
  obtain ⟨h2, e2⟩ := List.getElem?_eq_some_iff.mp hy
  rw [← e1, ← e2]
  exact List.pairwise_iff_getElem.mp h i (1 + i) h1 h2 (by omega)
theorem ok_is_lot (T : Tab K mg) : Ok P w base T.is_lot_of 5 rIsLot := fn_j T.is_lot_of.F sc_is_lot_of (fun _ _ _ _ ⟨_, _, e, _⟩ => by rw [e]; rfl) fun cdv A outer s H E hr ds S r S' ⟨e, lot, e1, he, hL, er, eS⟩ => by
  subst e1 er eS
  have hpos : 0 < lot.length := List.length_pos_iff.mpr hL.ne
  have hlen := hL.len
  have hz : (lot.map PyData.int).length < sizeLine := by rw [List.length_map, sizeLine_eq]; omega
  refine js_no (jt_w (jw_or (jt_notT (je_isi T.b_isinstance (vr 1) kit_tup_tup T.b_tuple PyProof.Rows.boot_tuple)) (fun h => nomatch h) fun _ => jw_or (k := false) (jt_not (k := true) (jt_chain (pt_chain op_le op_le pe_w pe_w pe_w) je_int (je_lenT T.b_len (vr 1)) rj_le (fun h => absurd (of_decide_eq_false h) (by rw [List.length_map]; omega)) fun _ => ⟨je_int, JRis rj_le (decide_eq_true (by rw [List.length_map]; omega))⟩)) (fun h => nomatch h) fun _ => jw_or1 (jt_notT
    (je_allT [("one", 2)] T.b_all sc_is_lot_of.nd (blkOk_by (N := n_is_lot_of) (sc := defScope s_is_lot_of) (by decide +kernel)) (ji_tup (vr 1)) hz trivial fun i d hd => ⟨[2], _, by decide, fun s H C cl fp => jg_name (i := 2) sc_is_lot_of.nd rfl, fun s H C cl fp => ?_⟩)))) ?_
  · obtain ⟨z, hz', rfl⟩ := ints_get hd
    exact je_call (ok_is_num T) (hr.mono (by decide)) (a2 (vr 0) (vr 2)) ⟨2, e, z, rfl, by decide, by omega, hL.num z hz', rfl, rfl⟩
  refine js_ret (je_allT [("one", 2), ("other", 3)] T.b_all sc_is_lot_of.nd (blkOk_by (N := n_is_lot_of) (sc := defScope s_is_lot_of) (by decide +kernel)) (ji_zip (RZ.pi_zipA rfl T.b_zip pa_w) (a2 (vr 1) (je_from1 (vr 1) (by simpa using hL.ne)))) (by rw [List.length_zipWith]; omega) trivial (fun i d hd => ?_) (by intro i hi; simp at hi; rcases hi with rfl | rfl <;> rfl)) ⟨.refl _, .refl _⟩
  obtain ⟨dx, dy, hx, hy, rfl⟩ := zip_get hd
  rw [← List.map_drop] at hy
  rw [List.getElem?_map] at hx hy
  obtain ⟨x, hx', rfl⟩ := Option.map_eq_some_iff.mp hx
  obtain ⟨y, hy', rfl⟩ := Option.map_eq_some_iff.mp hy
  have hlt := zip_next hL.ord hx' hy'
  exact ⟨[2, 3], _, by decide, fun s H C cl fp => jg_tup (ds := [.int x, .int y]) rfl (jgs_cons (jg_name (i := 2) sc_is_lot_of.nd rfl) (jgs_cons (jg_name (i := 3) sc_is_lot_of.nd rfl) jgs_nil)), fun s H C cl fp => je_cmp op_lt (vr 2) (vr 3) (JRis rj_lt (decide_eq_true hlt))⟩
def rNeedLot : Rel := fun ds S r S' => ∃ (e : Nat) (lot : List Int), ds = [.d (fD 2 e), .d (lotD lot)] ∧ e ≤ 2 ∧ Lot e lot ∧ r = .d .none ∧ S' = S
theorem ok_need_lot (T : Tab K mg) : Ok P w base T.need_lot 6 rNeedLot := fn_j T.need_lot.F sc_need_lot (fun _ _ _ _ ⟨_, _, e, _⟩ => by rw [e]; rfl) fun cdv A outer s H E hr ds S r S' ⟨e, lot, e1, he, hL, er, eS⟩ => by
  subst e1 er eS
  exact js_no (jt_notT (je_call (ok_is_lot T) (hr.mono (by decide)) (a2 (vr 0) (vr 1)) ⟨e, lot, rfl, he, hL, rfl, rfl⟩)) (js_nil ⟨.refl _, .refl _⟩)
def rNeedFew : Rel := fun ds S r S' => ∃ e : Nat, ds = [.d (fD 2 e)] ∧ e ≤ 2 ∧ r = .d .none ∧ S' = S
theorem ok_need_few (T : Tab K mg) : Ok P w base T.need_few 3 rNeedFew := fn_j T.need_few.F sc_need_few (fun _ _ _ _ ⟨_, e, _⟩ => by rw [e]; rfl) fun cdv A outer s H E hr ds S r S' ⟨e, e1, he, er, eS⟩ => by
  subst e1 er eS
  exact js_no (jt_w (jw_or (jt_notT (je_call (ok_is_format T) (hr.mono (by decide)) (a1 (vr 0)) ⟨2, e, rfl, fm2 he, rfl, rfl⟩)) (fun h => nomatch h) fun _ => jw_or1 (jt_cmp op_gt (je_op op_add (ixT (vr 0)) (ixT (vr 0)) rj_add) je_int (JRis (k' := false) rj_gt (decide_eq_false (by omega)))))) (js_nil ⟨.refl _, .refl _⟩)
/-! ### after, seen_total -/
def rAfter : Rel := fun ds S r S' => ∃ (e : Nat) (m : TP) (p : Option (List Int)) (x : Int), ds = [.d (fD 2 e), .d (pD m), .d (opD p), .d (.int x)] ∧ e ≤ 2 ∧ Mach m ∧ OPl e m p ∧ Num 2 e x ∧ r = .d (opD (nxF e m p x)) ∧ S' = S
theorem ok_after (T : Tab K mg) : Ok P w base T.after 9 rAfter := fn_j T.after.F sc_after (fun _ _ _ _ ⟨_, _, _, _, e, _⟩ => by rw [e]; rfl) fun cdv A outer s H E hr ds S r S' ⟨e, m, p, x, e1, he, hm, hp, hx, er, eS⟩ => by
  subst e1 er eS
  cases p with
  | none => exact js_ret (je_ifT (jt_cmp op_isN (vr 2) je_non rj_isN) je_non) ⟨.refl _, .refl _⟩
  | some p => exact js_ret (je_ifF (jt_cmp op_isN (vr 2) je_non rj_isN) (je_call (ok_step T) (hr.mono (by decide)) (ja_cons (vr 0) (a3 (vr 1) (vr 2) (vr 3))) ⟨e, m, p, x, rfl, he, hm, hp p rfl, hx, rfl, rfl⟩)) ⟨.refl _, .refl _⟩
def rSeen : Rel := fun ds S r S' => ∃ (e : Nat) (m : TP) (p : Option (List Int)), ds = [.d (fD 2 e), .d (pD m), .d (opD p)] ∧ e ≤ 2 ∧ Mach m ∧ OPl e m p ∧ r = .d (oI (seF e m p)) ∧ S' = S
theorem ok_seen (T : Tab K mg) : Ok P w base T.seen_total 8 rSeen := fn_j T.seen_total.F sc_seen_total (fun _ _ _ _ ⟨_, _, _, e, _⟩ => by rw [e]; rfl) fun cdv A outer s H E hr ds S r S' ⟨e, m, p, e1, he, hm, hp, er, eS⟩ => by
  subst e1 er eS
  cases p with
  | none => exact js_ret (je_ifT (jt_cmp op_isN (vr 2) je_non rj_isN) je_non) ⟨.refl _, .refl _⟩
  | some p =>
    have hpl := hp p rfl
    exact js_ret (je_ifF (jt_cmp op_isN (vr 2) je_non rj_isN) (je_call (ok_told T) (hr.mono (by decide)) (a3 (vr 0) (vr 1) (vr 2)) ⟨2, e, m, p, rfl, by decide, by omega, hpl.len, hpl.b2 he, hm, rfl, rfl⟩)) ⟨.refl _, .refl _⟩
end
end J

-- JM2
set_option Elab.async false
set_option linter.all false
set_option maxRecDepth 100000
set_option maxHeartbeats 4000000
/-! Finitely many places; pairs of places that numbers part. -/
namespace J
open PySem PySem.Spec PyProof.Rows L2
theorem nodup_le {α : Type} [DecidableEq α] : ∀ (l D : List α), l.Nodup → (∀ x ∈ l, x ∈ D) → l.length ≤ D.length
  | [], _, _, _ => Nat.zero_le _
  | x :: l, D, hn, hs => by
    obtain ⟨h1, h2⟩ := List.nodup_cons.mp hn
    have hx : x ∈ D := hs x List.mem_cons_self
    have ih := nodup_le l (D.erase x) h2 fun y hy => (List.mem_erase_of_ne (fun (e : y = x) => h1 (by rw [← e]; exact hy))).2 (hs y (List.mem_cons_of_mem _ hy))
    have e := List.length_erase_of_mem hx
    have hp : 0 < D.length := List.length_pos_of_mem hx
    rw [List.length_cons]
    omega
theorem flat_len {α β : Type} (f : α → List β) (n : Nat) : ∀ l : List α, (∀ x ∈ l, (f x).length ≤ n) → (l.flatMap f).length ≤ l.length * n
  | [], _ => by simp
  | x :: l, h => by
    rw [List.flatMap_cons, List.length_append, List.length_cons, Nat.succ_mul]
    have h1 := h x List.mem_cons_self
    have h2 := flat_len f n l fun y hy => h y (List.mem_cons_of_mem _ hy)
    omega
def numsL (b e : Nat) : List Int := (span 60).filter fun x => decide (Num b e x)
theorem nums_len : ([2, 3, 4].all fun b => [0, 1, 2].all fun e => decide ((numsL b e).length ≤ 63) && (b != 2 || decide ((numsL b e).length ≤ 15))) = true := by decide +kernel
theorem nums_bd {b e : Nat} (hb : 2 ≤ b) (hb4 : b ≤ 4) (he : e ≤ 2) : (numsL b e).length ≤ 63 ∧ (b = 2 → (numsL b e).length ≤ 15) := by
  have hb' : b ∈ [2, 3, 4] := by
    have : b = 2 ∨ b = 3 ∨ b = 4 := by omega
    simp [this]
  have he' : e ∈ [0, 1, 2] := by
    have : e = 0 ∨ e = 1 ∨ e = 2 := by omega
    simp [this]
  have k := List.all_eq_true.mp (List.all_eq_true.mp nums_len b hb') e he'
  simp only [Bool.and_eq_true, Bool.or_eq_true, decide_eq_true_eq, bne_iff_ne] at k
  exact ⟨k.1, fun h => k.2.elim (fun z => absurd h z) id⟩
theorem mem_nums {b e : Nat} {x : Int} (hb : 2 ≤ b) (hb4 : b ≤ 4) (he : e ≤ 2) (h : Num b e x) : x ∈ numsL b e := by
  have h1 := h.bd hb hb4 he
  have h2 := grT_le b
  exact List.mem_filter.mpr ⟨mem_span (by omega) (by omega), decide_eq_true h⟩
def allP (e : Nat) (m : TP) : List (List Int) := cond (isZ m.1) ((numsL 2 e).flatMap fun a => (numsL 2 e).map fun b => [a, b]) ((numsL (wdF 2 m.1) e).map fun a => [a])
def allO (e : Nat) (m : TP) : List (Option (List Int)) := none :: (allP e m).map some
theorem zw {m : TP} (hm : Mach m) (h : isZ m.1 = true) : isW m.1 = false := by
  rcases ways_cases hm with c | c | c | c | c | c <;> rw [c] at h ⊢ <;> revert h <;> decide +kernel
theorem mem_allP {e : Nat} {m : TP} {p : List Int} (he : e ≤ 2) (hm : Mach m) (h : Pl e m p) : p ∈ allP e m := by
  unfold allP
  cases c : isZ m.1 with
  | true =>
    obtain ⟨t, l, rfl, ht, hl⟩ := pl_two h c (zw hm c) he
    exact List.mem_flatMap.mpr ⟨t, mem_nums (by decide) (by decide) he ht, List.mem_map.mpr ⟨l, mem_nums (by decide) (by decide) he hl, rfl⟩⟩
  | false =>
    obtain ⟨t, rfl, ht⟩ := pl_one h c
    exact List.mem_map.mpr ⟨t, mem_nums (wd_ge _).1 (wd_ge _).2 he ht, rfl⟩
theorem mem_allO {e : Nat} {m : TP} {p : Option (List Int)} (he : e ≤ 2) (hm : Mach m) (h : OPl e m p) : p ∈ allO e m := by
  cases p with
  | none => exact List.mem_cons_self
  | some p => exact List.mem_cons_of_mem _ (List.mem_map.mpr ⟨p, mem_allP he hm (h p rfl), rfl⟩)
theorem allO_len {e : Nat} {m : TP} (he : e ≤ 2) : (allO e m).length ≤ 226 := by
  unfold allO
  rw [List.length_cons, List.length_map]
  unfold allP
  cases c : isZ m.1 with
  | true =>
    have h := (nums_bd (b := 2) (e := e) (by decide) (by decide) he).2 rfl
    have h2 := flat_len (fun a => (numsL 2 e).map fun b => [a, b]) 15 (numsL 2 e) fun x _ => by rw [List.length_map]; exact h
    show ((numsL 2 e).flatMap fun a => (numsL 2 e).map fun b => [a, b]).length + 1 ≤ 226
    omega
  | false =>
    have h := (nums_bd (wd_ge m.1).1 (wd_ge m.1).2 he).1
    show ((numsL (wdF 2 m.1) e).map fun a => [a]).length + 1 ≤ 226
    rw [List.length_map]
    omega
/-! ### pairs -/
abbrev Pair := Option (List Int) × Option (List Int)
def stepP (e : Nat) (a b : TP) (p : Pair) (x : Int) : Pair := (nxF e a p.1 x, nxF e b p.2 x)
def difP (e : Nat) (a b : TP) (p : Pair) : Prop := seF e a p.1 ≠ seF e b p.2
instance (e : Nat) (a b : TP) (p : Pair) : Decidable (difP e a b p) := inferInstanceAs (Decidable (_ ≠ _))
inductive Rch (e : Nat) (a b : TP) (lot : List Int) (s : Pair) : Pair → Prop
  | refl : Rch e a b lot s s
  | step {p : Pair} {x : Int} : Rch e a b lot s p → x ∈ lot → Rch e a b lot s (stepP e a b p x)
/-- some row of numbers of the lot tells the two apart -/
def Sep (e : Nat) (a b : TP) (lot : List Int) (s : Pair) : Prop := ∃ p x, Rch e a b lot s p ∧ x ∈ lot ∧ difP e a b (stepP e a b p x)
def PrOk (e : Nat) (a b : TP) (p : Pair) : Prop := OPl e a p.1 ∧ OPl e b p.2
def allPr (e : Nat) (a b : TP) : List Pair := (allO e a).flatMap fun x => (allO e b).map fun y => (x, y)
theorem mem_allPr {e : Nat} {a b : TP} {p : Pair} (he : e ≤ 2) (ha : Mach a) (hb : Mach b) (h : PrOk e a b p) : p ∈ allPr e a b :=
  List.mem_flatMap.mpr ⟨p.1, mem_allO he ha h.1, List.mem_map.mpr ⟨p.2, mem_allO he hb h.2, rfl⟩⟩
theorem allPr_len {e : Nat} {a b : TP} (he : e ≤ 2) : (allPr e a b).length ≤ 51076 := by
  have h := flat_len (fun x => (allO e b).map fun y => (x, y)) 226 (allO e a) fun x _ => by rw [List.length_map]; exact allO_len he
  have h2 := allO_len (m := a) he
  unfold allPr
  omega
theorem step_ok {e : Nat} {a b : TP} {p : Pair} {x : Int} (he : e ≤ 2) (ha : Mach a) (hb : Mach b) (h : PrOk e a b p) (hx : Num 2 e x) : PrOk e a b (stepP e a b p x) := ⟨nx_pl he ha h.1 hx, nx_pl he hb h.2 hx⟩
/-- a closed set of pairs none of which is parted by one number -/
theorem not_sep {e : Nat} {a b : TP} {lot : List Int} {s : Pair} {sn : List Pair} (h0 : s ∈ sn) (hc : ∀ p ∈ sn, ∀ x ∈ lot, ¬ difP e a b (stepP e a b p x) ∧ stepP e a b p x ∈ sn) : ¬ Sep e a b lot s := by
  rintro ⟨p, x, hr, hx, hd⟩
  have key : ∀ q, Rch e a b lot s q → q ∈ sn := fun q h => by
    induction h with
    | refl => exact h0
    | step _ hy ih => exact (hc _ ih _ hy).2
  exact (hc p (key p hr) x hx).1 hd
/-! ### keys -/
abbrev plK : Option (List Int) → NestedKey
  | none => .none
  | some l => .tup (l.map .num)
theorem datas_num : ∀ l : List Int, NestedKey.datas (l.map NestedKey.num) = l.map PyData.int
  | [] => rfl
  | x :: l => by
    show PyData.int x :: NestedKey.datas (l.map .num) = PyData.int x :: l.map PyData.int
    rw [datas_num l]
theorem plK_data (p : Option (List Int)) : (plK p).data = opD p := by
  cases p with
  | none => rfl
  | some l =>
    show PyData.tuple (NestedKey.datas (l.map .num)) = _
    rw [datas_num]
theorem map_inj {α β : Type} {f : α → β} (hf : ∀ x y, f x = f y → x = y) : ∀ {l k : List α}, l.map f = k.map f → l = k
  | [], [], _ => rfl
  | [], _ :: _, h => nomatch h
  | _ :: _, [], h => nomatch h
  | x :: l, y :: k, h => by
    rw [List.map_cons, List.map_cons] at h
    injection h with h1 h2
    rw [hf _ _ h1, map_inj hf h2]
theorem plK_inj : ∀ (p q : Option (List Int)), plK p = plK q → p = q
  | none, none, _ => rfl
  | none, some _, h => nomatch h
  | some _, none, h => nomatch h
  | some l, some k, h => by
    injection h with h
    rw [map_inj (fun x y e => by injection e) h]
theorem depth_num : ∀ l : List Int, NestedKey.depthAll (l.map NestedKey.num) = 0
  | [] => rfl
  | x :: l => by
    show max 0 (NestedKey.depthAll (l.map .num)) = 0
    rw [depth_num l]
    rfl
theorem plK_depth (p : Option (List Int)) : (plK p).depth ≤ 1 := by
  cases p with
  | none => exact Nat.zero_le _
  | some l =>
    show NestedKey.depthAll (l.map .num) + 1 ≤ 1
    rw [depth_num]
    exact Nat.le_refl _
abbrev prL (p : Pair) : List NestedKey := [plK p.1, plK p.2]
theorem prL_data (p : Pair) : (NestedKey.tup (prL p)).data = .tuple [opD p.1, opD p.2] := by
  show PyData.tuple [(plK p.1).data, (plK p.2).data] = _
  rw [plK_data, plK_data]
theorem prL_inj (p q : Pair) (h : prL p = prL q) : p = q := by
  injection h with h1 h2
  injection h2 with h2 _
  exact Prod.ext (plK_inj _ _ h1) (plK_inj _ _ h2)
theorem prL_depth (p : Pair) : (NestedKey.tup (prL p)).depth ≤ 8 := by
  show max (plK p.1).depth (max (plK p.2).depth 0) + 1 ≤ 8
  have h1 := plK_depth p.1
  have h2 := plK_depth p.2
  omega
/-- a dict that holds a value for each thing of a list -/
theorem findD_map {α : Type} [DecidableEq α] {ky : α → List NestedKey} (inj : ∀ x y, ky x = ky y → x = y) (f : α → PyData) (k : α) : ∀ l : List α, findD (l.map fun x => (NestedKey.tup (ky x), f x)) (.tup (ky k)) = if k ∈ l then some (f k) else none
  | [] => rfl
  | x :: l => by
    have ih := findD_map inj f k l
    unfold findD at ih ⊢
    rw [List.map_cons, List.find?_cons]
    by_cases c : x = k
    · subst c
      rw [decide_eq_true rfl, if_pos List.mem_cons_self]
      rfl
    · rw [decide_eq_false (fun z => c (inj _ _ (by injection z)))]
      show Option.map _ _ = _
      rw [ih]
      have c' : ¬ k = x := fun z => c z.symm
      by_cases h : k ∈ l
      · rw [if_pos h, if_pos (List.mem_cons_of_mem _ h)]
      · rw [if_neg h, if_neg (by rw [List.mem_cons]; exact fun z => z.elim c' h)]
end J

-- JD9
set_option Elab.async false
set_option linter.all false
set_option maxRecDepth 100000
set_option maxHeartbeats 4000000
namespace J
open PySem PySem.Spec PyProof.Rows L2
theorem sset_under {S : Sto} {q l : Addr} {d d' m : MO} (h : q ≠ l) : sset (sset (sset S q d) l m) q d' = sset (sset S q d') l m := by
  rw [sset_comm (Ne.symm h), sset_sset]
theorem oV_eq (x y : Option Int) : decide (oV x = oV y) = decide (x = y) := by
  cases x <;> cases y <;> simp [oV]
theorem oI_fl (x : Option Int) : Flat (oI x) (oV x) := by
  cases x with
  | none => exact .non
  | some x => exact .int x
theorem oV_scal (x y : Option Int) : scal (oV x) (oV y) = true := by cases x <;> cases y <;> rfl
theorem rj_neO {W : Wd} {S : Sto} (x y : Option Int) : RJ W rNe (.d (oI x)) (.d (oI y)) S (.d (.bool (!decide (x = y)))) S := by
  have h := rj_ne (W := W) (S := S) (oI_fl x) (oI_fl y) (oV_scal x y)
  rwa [oV_eq] at h
abbrev Item := List PyData × Pair
abbrev itD (it : Item) : PyData := .tuple [.list it.1, opD it.2.1, opD it.2.2]
abbrev snD (sn : List Pair) : List DK := sn.map fun p => (NestedKey.tup (prL p), PyData.bool true)
abbrev goodP (e : Nat) (a b : TP) (sn : List Pair) (p : Pair) (x : Int) : Prop := ¬ difP e a b (stepP e a b p x) ∧ stepP e a b p x ∈ sn
structure PMid (e : Nat) (a b : TP) (lot : List Int) (s : Pair) (lv : List Item) (n0 i : Nat) (lt : List Item) (sn : List Pair) : Prop where
  rch : ∀ p ∈ sn, Rch e a b lot s p
  ok : ∀ p ∈ sn, PrOk e a b p
  nd : sn.Nodup
  st : s ∈ sn
  vl : ∀ it ∈ lv, it.2 ∈ sn ∧ it.1.length < n0
  tl : ∀ it ∈ lt, it.2 ∈ sn ∧ it.1.length < sn.length
  cnt : sn.length = n0 + lt.length
  cl : ∀ p ∈ sn, p ∈ lt.map (·.2) ∨ p ∈ (lv.drop i).map (·.2) ∨ ∀ x ∈ lot, goodP e a b sn p x
theorem PMid.add {e : Nat} {a b : TP} {lot : List Int} {s : Pair} {lv : List Item} {n0 i : Nat} {lt : List Item} {sn : List Pair} (M : PMid e a b lot s lv n0 i lt sn) {it : Item} (hi : it ∈ lv) {x : Int} (hx : x ∈ lot) (he : e ≤ 2) (ha : Mach a) (hb : Mach b) (hxn : Num 2 e x)
    (hn : stepP e a b it.2 x ∉ sn) (d : PyData) : PMid e a b lot s lv n0 i (lt ++ [(it.1 ++ [d], stepP e a b it.2 x)]) (sn ++ [stepP e a b it.2 x]) := by
  have h1 := M.vl it hi
  have mono : ∀ {p : Pair}, p ∈ sn → p ∈ sn ++ [stepP e a b it.2 x] := fun h => List.mem_append_left _ h
  have hcnt := M.cnt
  refine ⟨fun p hp => ?_, fun p hp => ?_, ?_, mono M.st, fun j hj => ⟨mono (M.vl j hj).1, (M.vl j hj).2⟩, fun j hj => ?_, ?_, fun p hp => ?_⟩
  · rcases List.mem_append.mp hp with h | h
    · exact M.rch p h
    · rw [List.mem_singleton.mp h]; exact .step (M.rch _ h1.1) hx
  · rcases List.mem_append.mp hp with h | h
    · exact M.ok p h
    · rw [List.mem_singleton.mp h]; exact step_ok he ha hb (M.ok _ h1.1) hxn
  · refine List.nodup_append.mpr ⟨M.nd, by simp, fun p hp q hq => ?_⟩
    rw [List.mem_singleton.mp hq]
    rintro rfl
    exact hn hp
  · rw [List.length_append, List.length_singleton]
    rcases List.mem_append.mp hj with h | h
    · exact ⟨mono (M.tl j h).1, by have := (M.tl j h).2; omega⟩
    · rw [List.mem_singleton.mp h]
      refine ⟨List.mem_append_right _ (List.mem_singleton.mpr rfl), ?_⟩
      rw [List.length_append, List.length_singleton]
      omega
  · rw [List.length_append, List.length_append, List.length_singleton, List.length_singleton, hcnt]
    omega
  · rcases List.mem_append.mp hp with h | h
    · rcases M.cl p h with z | z | z
      · exact .inl (by rw [List.map_append]; exact List.mem_append_left _ z)
      · exact .inr (.inl z)
      · exact .inr (.inr fun y hy => ⟨(z y hy).1, mono (z y hy).2⟩)
    · exact .inl (by rw [List.map_append, List.mem_singleton.mp h]; exact List.mem_append_right _ (List.mem_singleton.mpr rfl))
theorem sn_le {e : Nat} {a b : TP} {sn : List Pair} (he : e ≤ 2) (ha : Mach a) (hb : Mach b) (nd : sn.Nodup) (ok : ∀ p ∈ sn, PrOk e a b p) : sn.length ≤ 51076 :=
  Nat.le_trans (nodup_le sn (allPr e a b) nd fun p hp => mem_allPr he ha hb (ok p hp)) (allPr_len he)
def isList : PyData → Prop := fun d => ∃ ds, d = .list ds
section
variable {P : Program} {w : World} {K : PySem.W.Frag} {mg : Str → Option Value} {base : Heap}
def rParted : Rel := fun ds S r S' => ∃ (e : Nat) (a b : TP) (lot : List Int) (s : Pair), ds = [.d (fD 2 e), .d (pD a), .d (pD b), .d (lotD lot), .d (.tuple [opD s.1, opD s.2])] ∧ e ≤ 2 ∧ Mach a ∧ Mach b ∧ lot.length ≤ 4 ∧ (∀ x ∈ lot, Num 2 e x) ∧ PrOk e a b s ∧
  ((Sep e a b lot s ∧ r = .s isList) ∨ (¬ Sep e a b lot s ∧ r = .d .none)) ∧ S' = S
theorem ok_parted (T : Tab K mg) : Ok P w base T.parted 10 rParted := fn_j T.parted.F sc_parted (fun _ _ _ _ ⟨_, _, _, _, _, e, _⟩ => by rw [e]; rfl) fun cdv A outer s0 H E hr ds S r S' ⟨e, a, b, lot, s, e1, he, ha, hb, hl, hn, hs, hres, eS⟩ => by
  subst e1 eS
  have hu := hr.units
  have h9 : Room 9 _ := hr.mono (by decide)
  have h8 : Room 8 _ := hr.mono (by decide)
  refine js_pr 5 6 sc_parted.nd (jax_cons (JE.frz (jn_lst (ds := [itD ([], s)]) (a1 (je_tup (ds := [.list [], opD s.1, opD s.2]) (a3 (JE.frz (jn_lst (ds := []) ja_nil)) (ixT (vr 4)) (ixT (vr 4)))))))
    (jax_new (jn_disp1 (ks := prL s) hu (JE.is (vr 4) (by rw [prL_data])) je_bl (prL_depth s)) fun q hq => jax_nil ⟨_, _, rfl, ?_⟩))
  refine js_while (m0 := 2 * 51076 + 1) (Pv := fun mm G S => ∃ (lv : List Item) (sn : List Pair) (g7 g8 g9 g10 g11 g12 : Option Wv), S = sset S' q (.dct (snD sn)) ∧ G = [some (.d (fD 2 e)), some (.d (pD a)), some (.d (pD b)), some (.d (lotD lot)), some (.d (.tuple [opD s.1, opD s.2])), some (.d (.list (lv.map itD))), some (.o q), g7, g8, g9, g10, g11, g12] ∧
    PMid e a b lot s lv sn.length 0 [] sn ∧ 2 * (51076 - sn.length) + (if lv = [] then 0 else 1) ≤ mm) PassesOwn.never ⟨[([], s)], [s], none, none, none, none, none, none, rfl, rfl, ?_, ?_⟩ ?_
  · refine ⟨fun p hp => ?_, fun p hp => ?_, by simp, List.mem_singleton.mpr rfl, fun it hi => ?_, fun it hi => (by cases hi), rfl, fun p hp => ?_⟩
    · rw [List.mem_singleton.mp hp]; exact .refl
    · rw [List.mem_singleton.mp hp]; exact hs
    · rw [List.mem_singleton.mp hi]; exact ⟨List.mem_singleton.mpr rfl, Nat.zero_lt_one⟩
    · exact .inr (.inl (by rw [List.mem_singleton.mp hp]; exact List.mem_singleton.mpr rfl))
  · simp
  rintro mm G' S2 ⟨lv, sn, g7, g8, g9, g10, g11, g12, rfl, rfl, M, hm⟩
  have hsn := sn_le he ha hb M.nd M.ok
  refine ⟨_, _, jt_cmp (op_neE hr.units0) (vr 5) (JE.frz (jn_lst (ds := []) ja_nil)) (rj_eqE .d), fun hk => ?_, fun hk => ?_⟩
  · have hlv : lv ≠ [] := by
      rintro rfl
      exact absurd hk (by decide)
    refine js_setN (i := 7) sc_parted.nd rfl (jn_lst (ds := []) ja_nil) fun l hl' => ?_
    have hql : q ≠ l := fun z => by rw [← z, sset_same] at hl'; cases hl'
    refine js_for (fun i G S => ∃ (lt : List Item) (sn' : List Pair) (g8 g9 g10 g11 g12 : Option Wv), S = sset (sset S' q (.dct (snD sn'))) l (.lst (lt.map itD)) ∧ G = [some (.d (fD 2 e)), some (.d (pD a)), some (.d (pD b)), some (.d (lotD lot)), some (.d (.tuple [opD s.1, opD s.2])), some (.d (.list (lv.map itD))), some (.o q), some (.o l), g8, g9, g10, g11, g12] ∧
      PMid e a b lot s lv sn.length i lt sn') PassesOwn.never rfl (ji_list (vr 5)) ⟨[], sn, g8, g9, g10, g11, g12, rfl, rfl, M⟩ (fun _ _ _ _ => trivial) ?_ ?_
    · rintro i d G' S2 hd ⟨lt, sn', g8, g9, g10, g11, g12, rfl, rfl, M'⟩
      rw [List.getElem?_map] at hd
      obtain ⟨it, hit, rfl⟩ := Option.map_eq_some_iff.mp hd
      have him : it ∈ lv := List.mem_of_getElem? hit
      refine ⟨[8, 9, 10], _, jg_tup (ds := [.list it.1, opD it.2.1, opD it.2.2]) rfl (jgs_cons (jg_name (i := 8) sc_parted.nd rfl) (jgs_cons (jg_name (i := 9) sc_parted.nd rfl) (jgs_cons (jg_name (i := 10) sc_parted.nd rfl) jgs_nil))), ?_⟩
      refine js_for (fun k G S => ∃ (lt : List Item) (sn' : List Pair) (g11 g12 : Option Wv), S = sset (sset S' q (.dct (snD sn'))) l (.lst (lt.map itD)) ∧ G = [some (.d (fD 2 e)), some (.d (pD a)), some (.d (pD b)), some (.d (lotD lot)), some (.d (.tuple [opD s.1, opD s.2])), some (.d (.list (lv.map itD))), some (.o q), some (.o l), some (.d (.list it.1)), some (.d (opD it.2.1)), some (.d (opD it.2.2)), g11, g12] ∧
        PMid e a b lot s lv sn.length i lt sn' ∧ ∀ j x, j < k → lot[j]? = some x → goodP e a b sn' it.2 x) PassesOwn.never rfl (ji_tup (vr 3)) ⟨lt, sn', g11, g12, rfl, rfl, M', fun j x hj => absurd hj (Nat.not_lt_zero _)⟩ (fun _ _ _ _ => trivial) ?_ ?_
      · clear M' lt sn' g8 g9 g10 g11 g12
        rintro k d G' S2 hd ⟨lt, sn', g11, g12, rfl, rfl, M', hg⟩
        rw [List.getElem?_map] at hd
        obtain ⟨x, hx, rfl⟩ := Option.map_eq_some_iff.mp hd
        have hxl : x ∈ lot := List.mem_of_getElem? hx
        have hxn := hn x hxl
        have hit2 := M'.vl it him
        have hok := M'.ok _ hit2.1
        have hok2 := step_ok he ha hb hok hxn
        have hsn' := sn_le he ha hb M'.nd M'.ok
        refine ⟨[11], _, jg_name (i := 11) sc_parted.nd rfl, ?_⟩
        refine js_set (i := 12) sc_parted.nd rfl (je_tup (ds := [opD (stepP e a b it.2 x).1, opD (stepP e a b it.2 x).2]) (a2 (je_call (ok_after T) h9 (ja_cons (vr 0) (a3 (vr 1) (vr 9) (vr 11))) ⟨e, a, it.2.1, x, rfl, he, ha, hok.1, hxn, rfl, rfl⟩) (je_call (ok_after T) h9 (ja_cons (vr 0) (a3 (vr 2) (vr 10) (vr 11))) ⟨e, b, it.2.2, x, rfl, he, hb, hok.2, hxn, rfl, rfl⟩))) ?_
        refine js_if (jt_cmp op_ne (je_call (ok_seen T) h8 (a3 (vr 0) (vr 1) (ixT (vr 12))) ⟨e, a, (stepP e a b it.2 x).1, rfl, he, ha, hok2.1, rfl, rfl⟩) (je_call (ok_seen T) h8 (a3 (vr 0) (vr 2) (ixT (vr 12))) ⟨e, b, (stepP e a b it.2 x).2, rfl, he, hb, hok2.2, rfl, rfl⟩) (rj_neO _ _)) (fun hd => ?_) fun hd => js_nil ?_
        · have hdif : difP e a b (stepP e a b it.2 x) := by
            intro z
            have : (seF e a (stepP e a b it.2 x).1 = seF e b (stepP e a b it.2 x).2) := z
            rw [decide_eq_true this] at hd
            cases hd
          have hsep : Sep e a b lot s := ⟨it.2, x, M'.rch _ hit2.1, hxl, hdif⟩
          rcases hres with ⟨_, rfl⟩ | ⟨h, _⟩
          · refine js_ret (JE.frz (jn_op op_catR (vr 8) (JE.frz (jn_lst (ds := [.int x]) (a1 (vr 11)))) (rn_cat .d .d ?_))) ⟨.s ⟨_, rfl⟩, ?_⟩
            · rw [List.length_singleton, sizeLine_eq]; omega
            · exact SubS.set2 (by rwa [sset_ne (Ne.symm hql)] at hl') (SubS.set hq)
          · exact absurd hsep h
        · have hdif : ¬ difP e a b (stepP e a b it.2 x) := by
            intro z
            have : ¬ (seF e a (stepP e a b it.2 x).1 = seF e b (stepP e a b it.2 x).2) := z
            rw [decide_eq_false this] at hd
            cases hd
          have hfind := findD_map (ky := prL) prL_inj (fun _ => PyData.bool true) (stepP e a b it.2 x) sn'
          have hS6 : (sset (sset S' q (.dct (snD sn'))) l (.lst (lt.map itD))) q = some (.dct (snD sn')) := by rw [sset_ne hql, sset_same]
          refine js_if (jt_cmp (op_notInN hu) (JE.is (vr 12) (by rw [prL_data])) (vr 6) (rj_inN (ks := prL (stepP e a b it.2 x)) (.m hS6) (prL_depth _))) (fun hc => ?_) fun hc => js_nil (js_nil ?_)
          · have hnew : stepP e a b it.2 x ∉ sn' := by
              intro z
              rw [hfind, if_pos z] at hc
              cases hc
            refine js_putN (ks := prL (stepP e a b it.2 x)) (d := .bool true) hu je_bl (vr 6) (JE.is (vr 12) (by rw [prL_data])) hS6 (prL_depth _) (by rw [hfind, if_neg hnew]) (by rw [List.length_map, sizeLine_eq]; omega) ?_
            rw [sset_under hql]
            refine js_expr (je_append (pe_bm PySem.F.plainAttrs_list PySem.F.slot_list_append PySem.F.type_list_append mt_append pe_w pa_w) (vr 7) ⟨_, sset_same⟩ (a1 (je_tup (ds := [.list (it.1 ++ [.int x]), opD (stepP e a b it.2 x).1, opD (stepP e a b it.2 x).2]) (a3 (JE.frz (jn_op op_catR (vr 8) (JE.frz (jn_lst (ds := [.int x]) (a1 (vr 11)))) (rn_cat .d .d ?_))) (ixT (vr 12)) (ixT (vr 12))))) sset_same ?_) (js_nil (js_nil ?_))
            · rw [List.length_singleton, sizeLine_eq]; omega
            · have hc := M'.cnt
              rw [List.length_map, sizeLine_eq]; omega
            · refine ⟨lt ++ [(it.1 ++ [.int x], stepP e a b it.2 x)], sn' ++ [stepP e a b it.2 x], _, _, ?_, rfl, M'.add him hxl he ha hb hxn hnew (.int x), fun j y hj hy => ?_⟩
              · rw [sset_sset, show snD (sn' ++ [stepP e a b it.2 x]) = snD sn' ++ snD [stepP e a b it.2 x] from List.map_append, List.map_append]; rfl
              · by_cases hjk : j < k
                · have := hg j y hjk hy
                  exact ⟨this.1, List.mem_append_left _ this.2⟩
                · have : j = k := by omega
                  subst this
                  rw [hx] at hy
                  cases hy
                  exact ⟨hdif, List.mem_append_right _ (List.mem_singleton.mpr rfl)⟩
          · have hold : stepP e a b it.2 x ∈ sn' := by
              refine Decidable.byContradiction fun z => ?_
              rw [hfind, if_neg z] at hc
              cases hc
            refine ⟨lt, sn', _, _, rfl, rfl, M', fun j y hj hy => ?_⟩
            by_cases hjk : j < k
            · exact hg j y hjk hy
            · have : j = k := by omega
              subst this
              rw [hx] at hy
              cases hy
              exact ⟨hdif, hold⟩
      · clear M' lt sn' g8 g9 g10 g11 g12
        rintro G' S2 ⟨lt, sn', g11, g12, rfl, rfl, M', hg⟩
        rw [List.length_map] at hg
        refine js_nil ⟨lt, sn', _, _, _, _, _, rfl, rfl, ⟨M'.rch, M'.ok, M'.nd, M'.st, M'.vl, M'.tl, M'.cnt, fun p hp => ?_⟩⟩
        rcases M'.cl p hp with z | z | z
        · exact .inl z
        · have e1 : lv.drop i = it :: lv.drop (i + 1) := by
            obtain ⟨h1, h2⟩ := List.getElem?_eq_some_iff.mp hit
            rw [List.drop_eq_getElem_cons h1, h2]
          rw [e1, List.map_cons] at z
          rcases List.mem_cons.mp z with rfl | z
          · refine .inr (.inr fun x hx => ?_)
            obtain ⟨j, hj, ej⟩ := List.getElem_of_mem hx
            exact hg j x hj (by rw [List.getElem?_eq_getElem hj, ej])
          · exact .inr (.inl z)
        · exact .inr (.inr z)
    · rintro G' S2 ⟨lt, sn', g8, g9, g10, g11, g12, rfl, rfl, M'⟩
      rw [List.length_map] at M'
      have hl2 : (sset S' q (.dct (snD sn'))) l = none := by
        rw [sset_ne (Ne.symm hql)]
        rwa [sset_ne (Ne.symm hql)] at hl'
      refine js_set (i := 5) sc_parted.nd rfl (JE.frzO (vr 7) sset_same) (js_nil ?_)
      have hsn' := sn_le he ha hb M'.nd M'.ok
      have hcnt := M'.cnt
      refine ⟨mm - 1, ?_, lt, sn', _, _, _, _, _, _, sdel_sset hl2, rfl, ⟨M'.rch, M'.ok, M'.nd, M'.st, M'.tl, fun it hi => (by cases hi), rfl, fun p hp => ?_⟩, ?_⟩
      · rw [if_neg hlv] at hm
        omega
      · rcases M'.cl p hp with z | z | z
        · exact .inr (.inl z)
        · rw [List.drop_length] at z; cases z
        · exact .inr (.inr z)
      · rw [if_neg hlv] at hm
        by_cases hlt : lt = []
        · rw [if_pos hlt]
          subst hlt
          simp at hcnt
          omega
        · rw [if_neg hlt]
          have := List.length_pos_iff.mpr hlt
          omega
  · have hlv : lv = [] := by
      cases lv with
      | nil => rfl
      | cons x y => exact absurd hk (by simp)
    subst hlv
    have hns : ¬ Sep e a b lot s := not_sep (sn := sn) M.st fun p hp x hx => by
      rcases M.cl p hp with z | z | z
      · cases z
      · cases z
      · exact z x hx
    rcases hres with ⟨h, _⟩ | ⟨_, rfl⟩
    · exact absurd h hns
    · exact js_ret je_non ⟨.refl _, SubS.set hq⟩
end
end J

-- JM3
set_option Elab.async false
set_option linter.all false
set_option maxRecDepth 100000
set_option maxHeartbeats 4000000
/-! States, their groups, what may be found within n numbers; finitely many states. -/
namespace J
open PySem PySem.Spec PyProof.Rows L2
abbrev MPl := TP × Option (List Int)
abbrev St := List MPl
abbrev mpD (o : MPl) : PyData := .tuple [pD o.1, opD o.2]
abbrev stD (s : St) : PyData := .tuple (s.map mpD)
abbrev mpK (o : MPl) : NestedKey := .tup [.tup [.text o.1.1, .text o.1.2], plK o.2]
abbrev stL (s : St) : List NestedKey := s.map mpK
theorem mpK_data (o : MPl) : (mpK o).data = mpD o := by
  show PyData.tuple [pD o.1, (plK o.2).data] = _
  rw [plK_data]
theorem datas_mpK : ∀ s : St, NestedKey.datas (s.map mpK) = s.map mpD
  | [] => rfl
  | o :: s => by
    show (mpK o).data :: NestedKey.datas (s.map mpK) = mpD o :: s.map mpD
    rw [mpK_data, datas_mpK s]
theorem stL_data (s : St) : (NestedKey.tup (stL s)).data = stD s := by
  show PyData.tuple (NestedKey.datas (s.map mpK)) = _
  rw [datas_mpK]
theorem mpK_inj (o q : MPl) (h : mpK o = mpK q) : o = q := by
  obtain ⟨⟨a, b⟩, p⟩ := o
  obtain ⟨⟨c, d⟩, r⟩ := q
  injection h with h
  injection h with h1 h2
  injection h1 with h1
  injection h1 with h1 h3
  injection h3 with h3 _
  injection h1 with h1
  injection h3 with h3
  injection h2 with h2 _
  have h4 := plK_inj _ _ h2
  simp only at h1 h3 h4
  rw [h1, h3, h4]
theorem stL_inj (s t : St) (h : stL s = stL t) : s = t := map_inj mpK_inj h
theorem stL_depth (s : St) : (NestedKey.tup (stL s)).depth ≤ 3 := by
  have key : ∀ s : St, NestedKey.depthAll (s.map mpK) ≤ 2 := by
    intro s
    induction s with
    | nil => exact Nat.zero_le _
    | cons o s ih =>
      show max (mpK o).depth (NestedKey.depthAll (s.map mpK)) ≤ 2
      have h1 : (mpK o).depth ≤ 2 := by
        show max (max 0 (max 0 0) + 1) (max (plK o.2).depth 0) + 1 ≤ 2
        have := plK_depth o.2
        omega
      omega
  show NestedKey.depthAll (s.map mpK) + 1 ≤ 3
  have := key s
  omega
/-! ### groups -/
abbrev News := List (Option Int × MPl)
def newsF (e : Nat) (s : St) (x : Int) : News := s.map fun o => (seF e o.1 (nxF e o.1 o.2 x), (o.1, nxF e o.1 o.2 x))
/-- the keys, in the order in which they first come -/
def keysF : News → List (Option Int)
  | [] => []
  | n :: r => n.1 :: (keysF r).filter fun k => decide (k ≠ n.1)
def grpOf (ns : News) (k : Option Int) : St := (ns.filter fun n => decide (n.1 = k)).map (·.2)
def grpF (e : Nat) (s : St) (x : Int) : List St := (keysF (newsF e s x)).map (grpOf (newsF e s x))
theorem mem_keys : ∀ {ns : News} {k : Option Int}, k ∈ keysF ns ↔ k ∈ ns.map (·.1)
  | [], k => Iff.rfl
  | n :: r, k => by
    unfold keysF
    rw [List.mem_cons, List.mem_filter, decide_eq_true_eq, mem_keys, List.map_cons, List.mem_cons]
    by_cases c : k = n.1
    · simp [c]
    · simp [c]
theorem keys_nodup : ∀ ns : News, (keysF ns).Nodup
  | [] => List.nodup_nil
  | n :: r => List.nodup_cons.mpr ⟨by simp, (keys_nodup r).filter _⟩
/-- one more at the end -/
theorem keys_snoc (t : Option Int) (o : MPl) : ∀ ns : News, keysF (ns ++ [(t, o)]) = if t ∈ keysF ns then keysF ns else keysF ns ++ [t]
  | [] => by simp [keysF]
  | n :: r => by
    have ih := keys_snoc t o r
    show n.1 :: (keysF (r ++ [(t, o)])).filter (fun k => decide (k ≠ n.1)) = if t ∈ n.1 :: (keysF r).filter (fun k => decide (k ≠ n.1)) then n.1 :: (keysF r).filter (fun k => decide (k ≠ n.1)) else (n.1 :: (keysF r).filter fun k => decide (k ≠ n.1)) ++ [t]
    rw [ih]
    by_cases c : t = n.1
    · have hc : t ∈ n.1 :: (keysF r).filter fun k => decide (k ≠ n.1) := by rw [c]; exact List.mem_cons_self
      by_cases h : t ∈ keysF r
      · rw [if_pos h, if_pos hc]
      · rw [if_neg h, if_pos hc, List.filter_append]
        simp [c]
    · by_cases h : t ∈ keysF r
      · rw [if_pos h, if_pos (List.mem_cons_of_mem _ (List.mem_filter.mpr ⟨h, decide_eq_true c⟩))]
      · rw [if_neg h, if_neg (by
          rw [List.mem_cons, List.mem_filter]
          rintro (z | z)
          · exact c z
          · exact h z.1), List.filter_append]
        simp [c]
theorem grp_snoc (t : Option Int) (o : MPl) (ns : News) (k : Option Int) : grpOf (ns ++ [(t, o)]) k = if k = t then grpOf ns k ++ [o] else grpOf ns k := by
  unfold grpOf
  rw [List.filter_append, List.map_append]
  by_cases c : k = t
  · rw [if_pos c]; simp [c]
  · have c' : ¬ t = k := fun z => c z.symm
    rw [if_neg c]; simp [c']
theorem grp_none {ns : News} {k : Option Int} (h : k ∉ keysF ns) : grpOf ns k = [] := by
  unfold grpOf
  rw [List.map_eq_nil_iff, List.filter_eq_nil_iff]
  intro n hn
  rw [decide_eq_true_eq]
  rintro rfl
  exact h (mem_keys.mpr (List.mem_map.mpr ⟨n, hn, rfl⟩))
/-! ### states -/
structure StOk (e : Nat) (ms : List TP) (s : St) : Prop where
  ne : s ≠ []
  sub : (s.map (·.1)).Sublist ms
  ok : ∀ o ∈ s, OPl e o.1 o.2
  told : ∃ t, ∀ o ∈ s, seF e o.1 o.2 = t
structure Mss (ms : List TP) : Prop where
  len : ms.length ≤ 3
  mach : ∀ m ∈ ms, Mach m
  nd : ms.Nodup
theorem StOk.mach {e : Nat} {ms : List TP} {s : St} (h : StOk e ms s) (hm : Mss ms) : ∀ o ∈ s, Mach o.1 := fun o ho => hm.mach _ (h.sub.subset (List.mem_map.mpr ⟨o, ho, rfl⟩))
theorem StOk.len {e : Nat} {ms : List TP} {s : St} (h : StOk e ms s) (hm : Mss ms) : s.length ≤ 3 := by
  have := h.sub.length_le
  rw [List.length_map] at this
  exact Nat.le_trans this hm.len
theorem grp_ok {e : Nat} {ms : List TP} {s g : St} {x : Int} (he : e ≤ 2) (hm : Mss ms) (h : StOk e ms s) (hx : Num 2 e x) (hg : g ∈ grpF e s x) : StOk e ms g := by
  obtain ⟨k, hk, rfl⟩ := List.mem_map.mp hg
  have hmem : ∀ o ∈ grpOf (newsF e s x) k, ∃ o' ∈ s, o = (o'.1, nxF e o'.1 o'.2 x) ∧ seF e o'.1 (nxF e o'.1 o'.2 x) = k := fun o ho => by
    obtain ⟨n, hn, rfl⟩ := List.mem_map.mp ho
    obtain ⟨hn1, hn2⟩ := List.mem_filter.mp hn
    obtain ⟨o', ho', rfl⟩ := List.mem_map.mp hn1
    exact ⟨o', ho', rfl, of_decide_eq_true hn2⟩
  refine ⟨fun z => ?_, ?_, fun o ho => ?_, k, fun o ho => ?_⟩
  · obtain ⟨n, hn, e1⟩ := List.mem_map.mp (mem_keys.mp hk)
    have : n.2 ∈ grpOf (newsF e s x) k := List.mem_map.mpr ⟨n, List.mem_filter.mpr ⟨hn, decide_eq_true e1⟩, rfl⟩
    rw [z] at this
    cases this
  · unfold grpOf
    rw [List.map_map]
    have h1 : ((newsF e s x).map ((·.1) ∘ (·.2))).Sublist ms := by
      unfold newsF
      rw [List.map_map]
      exact h.sub
    exact (List.Sublist.map _ List.filter_sublist).trans h1
  · obtain ⟨o', ho', rfl, _⟩ := hmem o ho
    exact nx_pl he (h.mach hm o' ho') (h.ok o' ho') hx
  · obtain ⟨o', ho', rfl, h2⟩ := hmem o ho
    exact h2
theorem keys_len : ∀ ns : News, (keysF ns).length ≤ ns.length
  | [] => Nat.le_refl _
  | n :: r => by
    unfold keysF
    rw [List.length_cons, List.length_cons]
    exact Nat.succ_le_succ (Nat.le_trans (List.length_filter_le _ _) (keys_len r))
theorem grp_len {e : Nat} {s : St} {x : Int} : (grpF e s x).length ≤ s.length := by
  unfold grpF
  rw [List.length_map]
  have := keys_len (newsF e s x)
  unfold newsF at this
  rw [List.length_map] at this
  exact this
/-! ### found -/
def Fnd (e : Nat) (lot : List Int) (s : St) : Prop := ∀ f, s.head? = some f → ∀ o ∈ s.tail, ¬ Sep e f.1 o.1 lot (f.2, o.2)
def Wn (e : Nat) (lot : List Int) : Nat → St → Prop
  | 0, s => Fnd e lot s
  | n + 1, s => Fnd e lot s ∨ ∃ x ∈ lot, ∀ g ∈ grpF e s x, Wn e lot n g
theorem Wn.succ {e : Nat} {lot : List Int} : ∀ {n : Nat} {s : St}, Wn e lot n s → Wn e lot (n + 1) s
  | 0, s, h => .inl h
  | n + 1, s, h => h.elim .inl fun ⟨x, hx, hg⟩ => .inr ⟨x, hx, fun g hg' => (hg g hg').succ⟩
theorem Wn.le {e : Nat} {lot : List Int} {n m : Nat} {s : St} (h : Wn e lot n s) (hl : n ≤ m) : Wn e lot m s := by
  induction hl with
  | refl => exact h
  | step _ ih => exact ih.succ
/-! ### finitely many -/
theorem cls_all : ([0, 1, 2].all fun e => waysL.all fun a => modesL.all fun r => (numsL 2 e).all fun t => decide (((allP e (a, r)).filter fun p => decide (ttF 2 e (a, r) p = some t)).length ≤ 25)) = true := by decide +kernel
def cls (e : Nat) (m : TP) : Option Int → List (Option (List Int))
  | none => [none]
  | some t => ((allP e m).filter fun p => decide (ttF 2 e m p = some t)).map some
theorem cls_len {e : Nat} {m : TP} {t : Option Int} (he : e ≤ 2) (hm : Mach m) (ht : ∀ z, t = some z → z ∈ numsL 2 e) : (cls e m t).length ≤ 25 := by
  cases t with
  | none => exact (by decide : 1 ≤ 25)
  | some t =>
    have he' : e ∈ [0, 1, 2] := by
      have : e = 0 ∨ e = 1 ∨ e = 2 := by omega
      simp [this]
    have k := of_decide_eq_true (List.all_eq_true.mp (List.all_eq_true.mp (List.all_eq_true.mp (List.all_eq_true.mp cls_all e he') m.1 hm.way) m.2 hm.mode) t (ht t rfl))
    show (List.map some _).length ≤ 25
    rw [List.length_map]
    exact k
theorem mem_cls {e : Nat} {m : TP} {p : Option (List Int)} (he : e ≤ 2) (hm : Mach m) (h : OPl e m p) : p ∈ cls e m (seF e m p) := by
  cases p with
  | none => exact List.mem_cons_self
  | some p =>
    have hp := h p rfl
    show some p ∈ cls e m (ttF 2 e m p)
    have := hp.tot
    cases c : ttF 2 e m p with
    | none => rw [c] at this; cases this
    | some t => exact List.mem_map.mpr ⟨p, List.mem_filter.mpr ⟨mem_allP he hm hp, decide_eq_true c⟩, rfl⟩
theorem wide_all : ([0, 1, 2].all fun e => modesL.all fun r => (span 60).all fun v => match rdF 2 e r v with
  | none => true
  | some z => decide (Num 2 e z)) = true := by decide +kernel
theorem told_wide {e : Nat} {m : TP} {p : List Int} {t : Int} (he : e ≤ 2) (hm : Mach m) (h : Pl e m p) (ht : ttF 2 e m p = some t) (z1 : isZ m.1 = false) (e1 : isPK m.1 = false) (e2 : isW m.1 = true) : Num 2 e t := by
  obtain ⟨a, rfl, ha⟩ := pl_one h z1
  unfold ttF at ht
  rw [e1, e2] at ht
  have h1 := ha.bd (wd_ge m.1).1 (wd_ge m.1).2 he
  have h2 := grT_le (wdF 2 m.1)
  have he' : e ∈ [0, 1, 2] := by
    have : e = 0 ∨ e = 1 ∨ e = 2 := by omega
    simp [this]
  have k := List.all_eq_true.mp (List.all_eq_true.mp (List.all_eq_true.mp wide_all e he') m.2 hm.mode) a (mem_span (by omega) (by omega))
  rw [show rdF 2 e m.2 a = some t from ht] at k
  exact of_decide_eq_true k
/-- the told total is a number of the form -/
theorem told_num {e : Nat} {m : TP} {p : List Int} {t : Int} (he : e ≤ 2) (hm : Mach m) (h : Pl e m p) (ht : ttF 2 e m p = some t) : Num 2 e t := by
  rcases ways_cases hm with c | c | c | c | c | c
  · have z1 : isZ m.1 = true := by rw [c]; decide +kernel
    obtain ⟨a, b, rfl, ha, hb⟩ := pl_two h z1 (by rw [c]; decide +kernel) he
    have e1 : isPK m.1 = false := by rw [c]; decide +kernel
    have e2 : isW m.1 = false := by rw [c]; decide +kernel
    unfold ttF at ht
    rw [e1, e2] at ht
    exact (pl_num (b := 2) (by decide) (by decide) he hm.mode (num_bd he ha) (num_bd he hb) ht).1
  · have z1 : isZ m.1 = true := by rw [c]; decide +kernel
    obtain ⟨a, b, rfl, ha, hb⟩ := pl_two h z1 (by rw [c]; decide +kernel) he
    have e1 : isPK m.1 = true := by rw [c]; decide +kernel
    unfold ttF at ht
    rw [e1] at ht
    cases ht
    exact ha
  · have z1 : isZ m.1 = false := by rw [c]; decide +kernel
    obtain ⟨a, rfl, ha⟩ := pl_one h z1
    have e1 : isPK m.1 = true := by rw [c]; decide +kernel
    have e2 : wdF 2 m.1 = 2 := by rw [c]; decide +kernel
    unfold ttF at ht
    rw [e1] at ht
    cases ht
    rw [e2] at ha
    exact ha
  · have z1 : isZ m.1 = true := by rw [c]; decide +kernel
    obtain ⟨a, b, rfl, ha, hb⟩ := pl_two h z1 (by rw [c]; decide +kernel) he
    have e1 : isPK m.1 = false := by rw [c]; decide +kernel
    have e2 : isW m.1 = false := by rw [c]; decide +kernel
    unfold ttF at ht
    rw [e1, e2] at ht
    exact (pl_num (b := 2) (by decide) (by decide) he hm.mode (num_bd he ha) (num_bd he hb) ht).1
  · exact told_wide he hm h ht (by rw [c]; decide +kernel) (by rw [c]; decide +kernel) (by rw [c]; decide +kernel)
  · exact told_wide he hm h ht (by rw [c]; decide +kernel) (by rw [c]; decide +kernel) (by rw [c]; decide +kernel)
end J

-- JM4
set_option Elab.async false
set_option linter.all false
set_option maxRecDepth 100000
set_option maxHeartbeats 4000000
/-! Finitely many states; the groups as a dict makes them. -/
namespace J
open PySem PySem.Spec PyProof.Rows L2
def build (e : Nat) (t : Option Int) : List TP → List St
  | [] => [[]]
  | m :: ms => build e t ms ++ (cls e m t).flatMap fun p => (build e t ms).map ((m, p) :: ·)
theorem build_len {e : Nat} {t : Option Int} (he : e ≤ 2) (ht : ∀ z, t = some z → z ∈ numsL 2 e) : ∀ ms : List TP, (∀ m ∈ ms, Mach m) → (build e t ms).length ≤ 26 ^ ms.length
  | [], _ => Nat.le_refl _
  | m :: ms, h => by
    have ih := build_len he ht ms fun m' hm' => h m' (List.mem_cons_of_mem _ hm')
    have h1 := flat_len (fun p => (build e t ms).map ((m, p) :: ·)) (26 ^ ms.length) (cls e m t) fun p _ => by rw [List.length_map]; exact ih
    have h2 := cls_len he (h m List.mem_cons_self) ht
    have h3 : (cls e m t).length * 26 ^ ms.length ≤ 25 * 26 ^ ms.length := Nat.mul_le_mul_right _ h2
    unfold build
    rw [List.length_append, List.length_cons, Nat.pow_succ]
    omega
theorem mem_build {e : Nat} {t : Option Int} (he : e ≤ 2) : ∀ (ms : List TP) (s : St), (∀ m ∈ ms, Mach m) → (s.map (·.1)).Sublist ms → (∀ o ∈ s, OPl e o.1 o.2) → (∀ o ∈ s, seF e o.1 o.2 = t) → s ∈ build e t ms
  | [], s, _, hs, _, _ => by
    have : s = [] := by
      have := List.sublist_nil.mp hs
      simpa using this
    rw [this]; exact List.mem_singleton.mpr rfl
  | m :: ms, s, hm, hs, ho, ht => by
    unfold build
    rw [List.mem_append]
    match s, hs, ho, ht with
    | [], _, _, _ => exact .inl (mem_build he ms [] (fun m' h' => hm m' (List.mem_cons_of_mem _ h')) (List.nil_sublist _) (fun o h => by cases h) fun o h => by cases h)
    | o :: s, hs, ho, ht =>
      rw [List.map_cons] at hs
      cases hs with
      | cons _ hs => exact .inl (mem_build he ms (o :: s) (fun m' h' => hm m' (List.mem_cons_of_mem _ h')) hs ho ht)
      | cons_cons _ hs =>
        refine .inr (List.mem_flatMap.mpr ⟨o.2, ?_, List.mem_map.mpr ⟨s, mem_build he ms s (fun m' h' => hm m' (List.mem_cons_of_mem _ h')) hs (fun o' h' => ho o' (List.mem_cons_of_mem _ h')) fun o' h' => ht o' (List.mem_cons_of_mem _ h'), rfl⟩⟩)
        have := mem_cls he (hm o.1 List.mem_cons_self) (ho o List.mem_cons_self)
        rwa [ht o List.mem_cons_self] at this
def univ (e : Nat) (ms : List TP) : List St := build e none ms ++ (numsL 2 e).flatMap fun t => build e (some t) ms
theorem univ_len {e : Nat} {ms : List TP} (he : e ≤ 2) (hm : Mss ms) : (univ e ms).length ≤ 281216 := by
  have hp : (26 : Nat) ^ ms.length ≤ 17576 := Nat.le_trans (Nat.pow_le_pow_right (by decide) hm.len) (by decide)
  have h1 := build_len (t := none) he (fun z h => by cases h) ms hm.mach
  have h2 := (nums_bd (b := 2) (e := e) (by decide) (by decide) he).2 rfl
  have h3 := flat_len (fun t => build e (some t) ms) 17576 (numsL 2 e) fun t ht => Nat.le_trans (build_len he (fun z h => by cases h; exact ht) ms hm.mach) hp
  unfold univ
  rw [List.length_append]
  omega
theorem mem_univ {e : Nat} {ms : List TP} {s : St} (he : e ≤ 2) (hm : Mss ms) (h : StOk e ms s) : s ∈ univ e ms := by
  obtain ⟨t, ht⟩ := h.told
  unfold univ
  rw [List.mem_append]
  have hb := mem_build he ms s hm.mach h.sub h.ok ht
  cases t with
  | none => exact .inl hb
  | some t =>
    refine .inr (List.mem_flatMap.mpr ⟨t, ?_, hb⟩)
    obtain ⟨o, r, rfl⟩ : ∃ o r, s = o :: r := by
      cases s with
      | nil => exact absurd rfl h.ne
      | cons o r => exact ⟨o, r, rfl⟩
    have h1 := ht o List.mem_cons_self
    have h2 := h.ok o List.mem_cons_self
    cases hp : o.2 with
    | none => rw [hp] at h1; cases h1
    | some p =>
      rw [hp] at h1
      exact mem_nums (by decide) (by decide) he (told_num he (h.mach hm o List.mem_cons_self) (h2 p hp) h1)
theorem st_count {e : Nat} {ms : List TP} {l : List St} (he : e ≤ 2) (hm : Mss ms) (nd : l.Nodup) (h : ∀ s ∈ l, StOk e ms s) : l.length ≤ 281216 := Nat.le_trans (nodup_le l (univ e ms) nd fun s hs => mem_univ he hm (h s hs)) (univ_len he hm)
/-! ### the dict of groups -/
abbrev kO : Option Int → Option Key
  | none => none
  | some i => some (.inl i)
theorem kD_kO (t : Option Int) : kD (kO t) = oI t := by cases t <;> rfl
theorem kO_inj (t u : Option Int) (h : kO t = kO u) : t = u := by
  cases t <;> cases u <;> first | rfl | (cases h; rfl) | cases h
def gKV (ns : News) : List DL := (keysF ns).map fun k => (kO k, stD (grpOf ns k))
theorem findG_map (f : Option Int → PyData) (t : Option Int) : ∀ l : List (Option Int), findG (l.map fun k => (kO k, f k)) (kO t) = if t ∈ l then some (f t) else none
  | [] => rfl
  | x :: l => by
    have ih := findG_map f t l
    unfold findG at ih ⊢
    rw [List.map_cons, List.find?_cons]
    by_cases c : x = t
    · subst c
      rw [decide_eq_true rfl, if_pos List.mem_cons_self]
      rfl
    · rw [decide_eq_false (fun z => c (kO_inj _ _ z))]
      show Option.map _ _ = _
      rw [ih]
      have c' : ¬ t = x := fun z => c z.symm
      by_cases h : t ∈ l
      · rw [if_pos h, if_pos (List.mem_cons_of_mem _ h)]
      · rw [if_neg h, if_neg (by rw [List.mem_cons]; exact fun z => z.elim c' h)]
theorem any_map (f : Option Int → PyData) (t : Option Int) : ∀ l : List (Option Int), ((l.map fun k => (kO k, f k)).any fun kv => decide (kv.1 = kO t)) = decide (t ∈ l)
  | [] => by simp
  | x :: l => by
    rw [List.map_cons, List.any_cons, any_map f t l]
    by_cases c : x = t
    · subst c; simp
    · have c' : ¬ t = x := fun z => c z.symm
      have c2 : ¬ kO x = kO t := fun z => c (kO_inj _ _ z)
      simp [c', c2]
/-- one more in its group -/
theorem gKV_snoc (t : Option Int) (o : MPl) (ns : News) : gKV (ns ++ [(t, o)]) = putG (gKV ns) (kO t) (stD (grpOf ns t ++ [o])) := by
  unfold gKV putG
  rw [any_map, keys_snoc]
  by_cases h : t ∈ keysF ns
  · rw [if_pos h, if_pos (decide_eq_true h), List.map_map]
    refine List.map_congr_left fun k _ => ?_
    show (kO k, stD (grpOf (ns ++ [(t, o)]) k)) = if kO k = kO t then (kO k, stD (grpOf ns t ++ [o])) else (kO k, stD (grpOf ns k))
    rw [grp_snoc]
    by_cases c : k = t
    · subst c
      rw [if_pos rfl, if_pos rfl]
    · rw [if_neg c, if_neg (fun z => c (kO_inj _ _ z))]
  · rw [if_neg h, if_neg (by rw [decide_eq_false h]; exact Bool.false_ne_true), List.map_append]
    congr 1
    · refine List.map_congr_left fun k hk => ?_
      rw [grp_snoc, if_neg (fun (z : k = t) => h (by rw [← z]; exact hk))]
    · rw [List.map_singleton, grp_snoc, if_pos rfl]
theorem gKV_find (t : Option Int) (ns : News) : (findG (gKV ns) (kO t)).getD (stD []) = stD (grpOf ns t) := by
  unfold gKV
  rw [findG_map]
  by_cases h : t ∈ keysF ns
  · rw [if_pos h]; rfl
  · rw [if_neg h, grp_none h]; rfl
end J

-- JDA
set_option Elab.async false
set_option linter.all false
set_option maxRecDepth 100000
set_option maxHeartbeats 4000000
namespace J
open PySem PySem.Spec PyProof.Rows L2
theorem rj_notNs {W : Wd} {S : Sto} {Φ : PyData → Prop} (h : ∀ d, Φ d → isN d = false) : RJ W (fun x y H Q => y = .non ∧ Q (.bl (!decide (x = .non))) H) (.s Φ) (.d .none) S (.d (.bool true)) S := fun B H vx vy g r1 r2 Q q => by
  cases r2
  obtain ⟨d, hd, r⟩ := r1
  refine ⟨rfl, ?_⟩
  rw [dp_isN r, h d hd]
  exact q _ _ (.same g (.bl _))
theorem isList_no : ∀ d, isList d → isN d = false := fun d ⟨ds, e⟩ => by rw [e]; rfl
theorem map_snoc {α β : Type} (f : α → β) (g : List α) (z : α) : g.map f ++ [f z] = (g ++ [z]).map f := by rw [List.map_append]; rfl
structure LotOk (e : Nat) (lot : List Int) : Prop where
  len : lot.length ≤ 4
  num : ∀ x ∈ lot, Num 2 e x
section
variable {P : Program} {w : World} {K : PySem.W.Frag} {mg : Str → Option Value} {base : Heap}
/-! ### is_found -/
def rFound : Rel := fun ds S r S' => ∃ (e : Nat) (lot : List Int) (ms : List TP) (s : St), ds = [.d (fD 2 e), .d (lotD lot), .d (stD s)] ∧ e ≤ 2 ∧ LotOk e lot ∧ Mss ms ∧ StOk e ms s ∧ ((Fnd e lot s ∧ r = .d (.bool true)) ∨ (¬ Fnd e lot s ∧ r = .d (.bool false))) ∧ S' = S
theorem ok_found (T : Tab K mg) : Ok P w base T.is_found 11 rFound := fn_j T.is_found.F sc_is_found (fun _ _ _ _ ⟨_, _, _, _, e, _⟩ => by rw [e]; rfl) fun cdv A outer s0 H E hr ds S r S' ⟨e, lot, ms, s, e1, he, hL, hm, hs, hres, eS⟩ => by
  subst e1 eS
  obtain ⟨f, t, rfl⟩ : ∃ f t, s = f :: t := by
    cases s with
    | nil => exact absurd rfl hs.ne
    | cons f t => exact ⟨f, t, rfl⟩
  have hlen := hs.len hm
  have hmf := hs.mach hm f List.mem_cons_self
  have hof := hs.ok f List.mem_cons_self
  refine js_set (i := 3) sc_is_found.nd rfl (ixT (d := mpD f) (vr 2) at0) ?_
  refine js_for (fun i G S => S = S' ∧ (∃ g4 g5, G = [some (.d (fD 2 e)), some (.d (lotD lot)), some (.d (stD (f :: t))), some (.d (mpD f)), g4, g5]) ∧ ∀ j o, j < i → t[j]? = some o → ¬ Sep e f.1 o.1 lot (f.2, o.2)) PassesOwn.never rfl (ji_tup (je_from1 (ds := (f :: t).map mpD) (vr 2) (by simp))) ⟨rfl, ⟨none, none, rfl⟩, fun j o hj => absurd hj (Nat.not_lt_zero _)⟩ (fun _ _ _ _ => trivial) ?_ ?_
  · rintro i d G' S2 hd ⟨rfl, ⟨g4, g5, rfl⟩, hi⟩
    have hd' : (t.map mpD)[i]? = some d := hd
    rw [List.getElem?_map] at hd'
    obtain ⟨o, ho, rfl⟩ := Option.map_eq_some_iff.mp hd'
    have hom : o ∈ f :: t := List.mem_cons_of_mem _ (List.mem_of_getElem? ho)
    have hmo := hs.mach hm o hom
    have hoo := hs.ok o hom
    refine ⟨[4, 5], _, jg_tup (ds := [pD o.1, opD o.2]) rfl (jgs_cons (jg_name (i := 4) sc_is_found.nd rfl) (jgs_cons (jg_name (i := 5) sc_is_found.nd rfl) jgs_nil)), ?_⟩
    have arg := fun (X : Cx) => @ja_cons X
    by_cases hsep : Sep e f.1 o.1 lot (f.2, o.2)
    · have hnf : ¬ Fnd e lot (f :: t) := fun z => z f rfl o (List.mem_of_getElem? ho) hsep
      rcases hres with ⟨h, _⟩ | ⟨_, rfl⟩
      · exact absurd h hnf
      · refine js_ifT (jt_cmp op_notN (je_call (ok_parted T) (hr.mono (by decide)) (ja_cons (vr 0) (ja_cons (ixT (d := pD f.1) (vr 3)) (a3 (vr 4) (vr 1) (je_tup (ds := [opD f.2, opD o.2]) (a2 (ixT (d := opD f.2) (vr 3)) (vr 5)))))) ⟨e, f.1, o.1, lot, (f.2, o.2), rfl, he, hmf, hmo, hL.len, hL.num, ⟨hof, hoo⟩, .inl ⟨hsep, rfl⟩, rfl⟩) je_non (rj_notNs isList_no)) (js_ret je_bl ⟨.refl _, .refl _⟩)
    · refine js_ifF (jt_cmp op_notN (je_call (ok_parted T) (hr.mono (by decide)) (ja_cons (vr 0) (ja_cons (ixT (d := pD f.1) (vr 3)) (a3 (vr 4) (vr 1) (je_tup (ds := [opD f.2, opD o.2]) (a2 (ixT (d := opD f.2) (vr 3)) (vr 5)))))) ⟨e, f.1, o.1, lot, (f.2, o.2), rfl, he, hmf, hmo, hL.len, hL.num, ⟨hof, hoo⟩, .inr ⟨hsep, rfl⟩, rfl⟩) je_non rj_notN) (js_nil (js_nil ⟨rfl, ⟨_, _, rfl⟩, fun j o' hj ho' => ?_⟩))
      by_cases hjk : j < i
      · exact hi j o' hjk ho'
      · have : j = i := by omega
        subst this
        rw [ho] at ho'
        cases ho'
        exact hsep
  · rintro G' S2 ⟨rfl, ⟨g4, g5, rfl⟩, hi⟩
    have hf : Fnd e lot (f :: t) := fun f' hf' o ho => by
      cases hf'
      have ho' : o ∈ t := ho
      obtain ⟨j, hj, ej⟩ := List.getElem_of_mem ho'
      refine hi j o ?_ (by rw [List.getElem?_eq_getElem hj, ej])
      show j < (t.map mpD).length
      rw [List.length_map]
      exact hj
    rcases hres with ⟨_, rfl⟩ | ⟨h, _⟩
    · exact js_ret je_bl ⟨.refl _, .refl _⟩
    · exact absurd hf h
/-! ### answers_at -/
abbrev grD (gs : List St) : PyData := .list (gs.map stD)
abbrev anD (e : Nat) (s : St) (x : Int) : PyData := .tuple [.int x, grD (grpF e s x)]
def rAnswers : Rel := fun ds S r S' => ∃ (e : Nat) (lot : List Int) (ms : List TP) (s : St), ds = [.d (fD 2 e), .d (lotD lot), .d (stD s)] ∧ e ≤ 2 ∧ LotOk e lot ∧ Mss ms ∧ StOk e ms s ∧ r = .d (.list (lot.map (anD e s))) ∧ S' = S
theorem news_take {e : Nat} {s : St} {x : Int} {i : Nat} {o : MPl} (h : s[i]? = some o) : (newsF e s x).take (i + 1) = (newsF e s x).take i ++ [(seF e o.1 (nxF e o.1 o.2 x), (o.1, nxF e o.1 o.2 x))] := by
  unfold newsF
  rw [List.take_succ, List.getElem?_map, h]
  rfl
theorem ok_answers (T : Tab K mg) : Ok P w base T.answers_at 10 rAnswers := fn_j T.answers_at.F sc_answers_at (fun _ _ _ _ ⟨_, _, _, _, e, _⟩ => by rw [e]; rfl) fun cdv A outer s0 H E hr ds S r S' ⟨e, lot, ms, s, e1, he, hL, hm, hs, er, eS⟩ => by
  subst e1 er eS
  have hlen := hs.len hm
  have h9 : Room 9 _ := hr.mono (by decide)
  have h8 : Room 8 _ := hr.mono (by decide)
  refine js_setN (i := 3) sc_answers_at.nd rfl (jn_lst (ds := []) ja_nil) fun f hf => ?_
  refine js_for (fun i G S => S = sset S' f (.lst ((lot.take i).map (anD e s))) ∧ ∃ g4 g5 g6 g7 g8 g9, G = [some (.d (fD 2 e)), some (.d (lotD lot)), some (.d (stD s)), some (.o f), g4, g5, g6, g7, g8, g9]) PassesOwn.never rfl (ji_tup (vr 1)) ⟨rfl, none, none, none, none, none, none, rfl⟩ (fun _ _ _ _ => trivial) ?_ ?_
  · rintro i d G' S2 hd ⟨rfl, g4, g5, g6, g7, g8, g9, rfl⟩
    rw [List.getElem?_map] at hd
    obtain ⟨x, hx, rfl⟩ := Option.map_eq_some_iff.mp hd
    have hxn := hL.num x (List.mem_of_getElem? hx)
    have hL4 := hL.len
    refine ⟨[4], _, jg_name (i := 4) sc_answers_at.nd rfl, ?_⟩
    refine js_setN (i := 5) sc_answers_at.nd rfl jn_dictL fun q hq => ?_
    have hqf : q ≠ f := fun z => by rw [z, sset_same] at hq; cases hq
    refine js_for (fun k G S => S = sset (sset S' f (.lst ((lot.take i).map (anD e s)))) q (.dlf (gKV ((newsF e s x).take k))) ∧ ∃ g6 g7 g8 g9, G = [some (.d (fD 2 e)), some (.d (lotD lot)), some (.d (stD s)), some (.o f), some (.d (.int x)), some (.o q), g6, g7, g8, g9]) PassesOwn.never rfl (ji_tup (vr 2)) ⟨rfl, g6, g7, g8, g9, rfl⟩ (fun _ _ _ _ => trivial) ?_ ?_
    · rintro k d G' S2 hd ⟨rfl, g6, g7, g8, g9, rfl⟩
      rw [List.getElem?_map] at hd
      obtain ⟨o, ho, rfl⟩ := Option.map_eq_some_iff.mp hd
      have hom : o ∈ s := List.mem_of_getElem? ho
      have hmo := hs.mach hm o hom
      have hoo := hs.ok o hom
      have hon := nx_pl he hmo hoo hxn
      have hkl : ((newsF e s x).take k).length ≤ 3 := by
        rw [List.length_take]
        unfold newsF
        rw [List.length_map]
        omega
      have hgl : (gKV ((newsF e s x).take k)).length ≤ 3 := by
        unfold gKV
        rw [List.length_map]
        exact Nat.le_trans (keys_len _) hkl
      refine ⟨[6, 7], _, jg_tup (ds := [pD o.1, opD o.2]) rfl (jgs_cons (jg_name (i := 6) sc_answers_at.nd rfl) (jgs_cons (jg_name (i := 7) sc_answers_at.nd rfl) jgs_nil)), ?_⟩
      refine js_set (i := 8) sc_answers_at.nd rfl (je_call (ok_after T) h9 (ja_cons (vr 0) (a3 (vr 6) (vr 7) (vr 4))) ⟨e, o.1, o.2, x, rfl, he, hmo, hoo, hxn, rfl, rfl⟩) ?_
      refine js_set (i := 9) sc_answers_at.nd rfl (je_call (ok_seen T) h8 (a3 (vr 0) (vr 6) (vr 8)) ⟨e, o.1, nxF e o.1 o.2 x, rfl, he, hmo, hon, rfl, rfl⟩) ?_
      refine js_putL (k := kO (seF e o.1 (nxF e o.1 o.2 x))) (d := stD (grpOf ((newsF e s x).take k) (seF e o.1 (nxF e o.1 o.2 x)) ++ [(o.1, nxF e o.1 o.2 x)])) (JE.is (je_op op_catA (JE.is (je_lget ⟨rfl, rfl, rfl, rfl⟩ (vr 5) (JE.is (vr 9) (by rw [kD_kO])) (je_tup (ds := []) ja_nil) sset_same) (congrArg Wv.d (gKV_find (seF e o.1 (nxF e o.1 o.2 x)) ((newsF e s x).take k)))) (je_tup (ds := [mpD (o.1, nxF e o.1 o.2 x)]) (a1 (je_tup (ds := [pD o.1, opD (nxF e o.1 o.2 x)]) (a2 (vr 6) (vr 8))))) (rj_catT ?_)) ?_) (vr 5) (JE.is (vr 9) (by rw [kD_kO])) sset_same ?_ (js_nil ⟨?_, _, _, _, _, rfl⟩)
      · have : (grpOf ((newsF e s x).take k) (seF e o.1 (nxF e o.1 o.2 x))).length ≤ 3 := by
          unfold grpOf
          rw [List.length_map]
          exact Nat.le_trans (List.length_filter_le _ _) hkl
        rw [List.length_map, List.length_singleton, sizeLine_eq]
        omega
      · exact congrArg (fun l => Wv.d (PyData.tuple l)) (map_snoc mpD _ _)
      · rw [sizeLine_eq]; omega
      · rw [sset_sset, news_take ho, gKV_snoc]
    · rintro G' S2 ⟨rfl, g6, g7, g8, g9, rfl⟩
      rw [List.length_map]
      have hfull : (newsF e s x).take s.length = newsF e s x := List.take_of_length_le (by unfold newsF; rw [List.length_map]; exact Nat.le_refl _)
      rw [hfull]
      have hS5 : (sset (sset S' f (.lst ((lot.take i).map (anD e s)))) q (.dlf (gKV (newsF e s x)))) f = some (.lst ((lot.take i).map (anD e s))) := by rw [sset_ne (Ne.symm hqf), sset_same]
      have hgl : (gKV (newsF e s x)).length ≤ 3 := by
        unfold gKV
        rw [List.length_map]
        refine Nat.le_trans (keys_len _) ?_
        unfold newsF
        rw [List.length_map]
        exact hlen
      refine js_forget (i := 9) ?_
      refine js_expr (je_append (d := anD e s x) (pe_bm PySem.F.plainAttrs_list PySem.F.slot_list_append PySem.F.type_list_append mt_append pe_w pa_w) (vr 3) ⟨_, hS5⟩ (a1 (je_tup (ds := [.int x, grD (grpF e s x)]) (a2 (vr 4) (JE.frz (jn_lockL (p := q) (kvs := gKV (newsF e s x)) sset_same fun ob u => jn_map (rs := (grpF e s x).map stD) [("told", 9)] sc_answers_at.nd (blkOk_by (N := n_answers_at) (sc := defScope s_answers_at) (by decide +kernel)) (ji_keysL (vr 5) sset_same) ?_ ?_ sset_same fun j d hd => ?_))))) hS5 ?_) (js_drop (S1 := sset S' f (.lst ((lot.take (i + 1)).map (anD e s)))) (js_nil ⟨rfl, _, _, _, _, _, _, rfl⟩) ?_)
      · unfold grpF gKV
        simp
      · rw [List.length_map, sizeLine_eq]; omega
      · unfold gKV at hd
        rw [List.map_map, List.getElem?_map] at hd
        obtain ⟨k, hk, rfl⟩ := Option.map_eq_some_iff.mp hd
        refine ⟨[9], _, stD (grpOf (newsF e s x) k), by decide, fun s1 H1 C cl fp => jg_name (i := 9) sc_answers_at.nd rfl, fun s1 H1 C cl fp => je_ix ix_Lf (vr 5) (vr 9) (rj_ixLf (.f sset_same) ?_), ?_⟩
        · unfold gKV
          exact (findG_map (fun k => stD (grpOf (newsF e s x) k)) k (keysF (newsF e s x))).trans (if_pos (List.mem_of_getElem? hk))
        · unfold grpF
          rw [List.map_map, List.getElem?_map, hk]
          rfl
      · rw [List.length_map, List.length_take, sizeLine_eq]; omega
      · have hq2 : (sset S' f (.lst ((lot.take (i + 1)).map (anD e s)))) q = none := by
          rw [sset_ne hqf]
          rwa [sset_ne hqf] at hq
        rw [sset_under (Ne.symm hqf), show ((lot.take i).map (anD e s) ++ [anD e s x]) = (lot.take (i + 1)).map (anD e s) by rw [List.take_succ, hx, List.map_append]; rfl]
        exact SubS.set hq2
  · rintro G' S2 ⟨rfl, g4, g5, g6, g7, g8, g9, rfl⟩
    refine js_ret (JE.frzO (vr 3) sset_same) ⟨?_, ?_⟩
    · rw [List.length_map, List.take_of_length_le (Nat.le_refl _)]
      exact .refl _
    · rw [sdel_sset hf]; exact .refl _
end
end J

-- JM5
set_option Elab.async false
set_option linter.all false
set_option maxRecDepth 100000
set_option maxHeartbeats 4000000
/-! The ranks of the reachable states: what the two loops keep. -/
namespace J
open PySem PySem.Spec PyProof.Rows L2
section
variable {e : Nat} {lot : List Int} {ms : List TP} {start : St}
structure P1 (e : Nat) (lot : List Int) (ms : List TP) (start : St) (sd fd lf : List St) : Prop where
  nd : (sd ++ fd).Nodup
  ok : ∀ s ∈ sd ++ fd, StOk e ms s
  okl : ∀ s ∈ lf, StOk e ms s
  f1 : ∀ s ∈ fd, Fnd e lot s
  f0 : ∀ s ∈ sd, ¬ Fnd e lot s
  cl : ∀ s ∈ sd, ∀ x ∈ lot, ∀ g ∈ grpF e s x, g ∈ sd ++ fd ∨ g ∈ lf
  st : start ∈ sd ++ fd ∨ start ∈ lf
  sz : lf.length ≤ 1 + 12 * sd.length
theorem P1.count {sd fd lf : List St} (h : P1 e lot ms start sd fd lf) (he : e ≤ 2) (hm : Mss ms) : sd.length + fd.length ≤ 281216 := by
  have := st_count he hm h.nd h.ok
  rwa [List.length_append] at this
/-- a state that is known already -/
theorem P1.skip {sd fd lf : List St} {s : St} (h : P1 e lot ms start sd fd (lf ++ [s])) (hs : s ∈ sd ++ fd) : P1 e lot ms start sd fd lf := by
  have key : ∀ g, g ∈ sd ++ fd ∨ g ∈ lf ++ [s] → g ∈ sd ++ fd ∨ g ∈ lf := fun g hg => by
    rcases hg with z | z
    · exact .inl z
    · rcases List.mem_append.mp z with z | z
      · exact .inr z
      · rw [List.mem_singleton.mp z]; exact .inl hs
  have hsz := h.sz
  rw [List.length_append, List.length_singleton] at hsz
  exact ⟨h.nd, h.ok, fun g hg => h.okl g (List.mem_append_left _ hg), h.f1, h.f0, fun t ht x hx g hg => key g (h.cl t ht x hx g hg), key _ h.st, by omega⟩
/-- a found one -/
theorem P1.found {sd fd lf : List St} {s : St} (h : P1 e lot ms start sd fd (lf ++ [s])) (hs : s ∉ sd ++ fd) (hf : Fnd e lot s) : P1 e lot ms start sd (fd ++ [s]) lf := by
  have mem : ∀ g, g ∈ sd ++ (fd ++ [s]) ↔ g ∈ sd ++ fd ∨ g = s := fun g => by
    rw [← List.append_assoc, List.mem_append, List.mem_singleton]
  have key : ∀ g, g ∈ sd ++ fd ∨ g ∈ lf ++ [s] → g ∈ sd ++ (fd ++ [s]) ∨ g ∈ lf := fun g hg => by
    rw [mem]
    rcases hg with z | z
    · exact .inl (.inl z)
    · rcases List.mem_append.mp z with z | z
      · exact .inr z
      · exact .inl (.inr (List.mem_singleton.mp z))
  have hsz := h.sz
  rw [List.length_append, List.length_singleton] at hsz
  refine ⟨?_, fun g hg => ?_, fun g hg => h.okl g (List.mem_append_left _ hg), fun g hg => ?_, h.f0, fun t ht x hx g hg => key g (h.cl t ht x hx g hg), key _ h.st, by omega⟩
  · rw [← List.append_assoc]
    refine List.nodup_append.mpr ⟨h.nd, by simp, fun a ha b hb => ?_⟩
    rw [List.mem_singleton.mp hb]
    rintro rfl
    exact hs ha
  · rcases (mem g).mp hg with z | rfl
    · exact h.ok g z
    · exact h.okl _ (List.mem_append_right _ (List.mem_singleton.mpr rfl))
  · rcases List.mem_append.mp hg with z | z
    · exact h.f1 g z
    · rw [List.mem_singleton.mp z]; exact hf
/-- what is pushed -/
def pushed (e : Nat) (lot : List Int) (s : St) (i : Nat) : List St := (lot.take i).flatMap (grpF e s)
theorem pushed_len {s : St} (hs : s.length ≤ 3) (hl : lot.length ≤ 4) (i : Nat) : (pushed e lot s i).length ≤ 12 := by
  have h := flat_len (grpF e s) 3 (lot.take i) fun x _ => Nat.le_trans grp_len hs
  rw [List.length_take] at h
  unfold pushed
  have : min i lot.length * 3 ≤ 4 * 3 := Nat.mul_le_mul_right _ (by omega)
  omega
theorem P1.expand {sd fd lf : List St} {s : St} (h : P1 e lot ms start sd fd (lf ++ [s])) (he : e ≤ 2) (hm : Mss ms) (hL : LotOk e lot) (hs : s ∉ sd ++ fd) (hf : ¬ Fnd e lot s) : P1 e lot ms start (sd ++ [s]) fd (lf ++ pushed e lot s lot.length) := by
  have hso : StOk e ms s := h.okl s (List.mem_append_right _ (List.mem_singleton.mpr rfl))
  have mem : ∀ g, g ∈ (sd ++ [s]) ++ fd ↔ g ∈ sd ++ fd ∨ g = s := fun g => by
    rw [List.mem_append, List.mem_append, List.mem_append, List.mem_singleton]
    constructor
    · rintro ((z | z) | z)
      · exact .inl (.inl z)
      · exact .inr z
      · exact .inl (.inr z)
    · rintro ((z | z) | z)
      · exact .inl (.inl z)
      · exact .inr z
      · exact .inl (.inr z)
  have key : ∀ g, g ∈ sd ++ fd ∨ g ∈ lf ++ [s] → g ∈ (sd ++ [s]) ++ fd ∨ g ∈ lf ++ pushed e lot s lot.length := fun g hg => by
    rw [mem]
    rcases hg with z | z
    · exact .inl (.inl z)
    · rcases List.mem_append.mp z with z | z
      · exact .inr (List.mem_append_left _ z)
      · exact .inl (.inr (List.mem_singleton.mp z))
  have hpush : ∀ g, g ∈ pushed e lot s lot.length ↔ ∃ x ∈ lot, g ∈ grpF e s x := fun g => by
    unfold pushed
    rw [List.take_length, List.mem_flatMap]
  have hsz := h.sz
  rw [List.length_append, List.length_singleton] at hsz
  have hpl := pushed_len (e := e) (lot := lot) (s := s) (hso.len hm) hL.len lot.length
  refine ⟨?_, fun g hg => ?_, fun g hg => ?_, h.f1, fun g hg => ?_, fun t ht x hx g hg => ?_, key _ h.st, ?_⟩
  · have hp : ((sd ++ [s]) ++ fd).Perm ((sd ++ fd) ++ [s]) := by
      rw [List.append_assoc, List.append_assoc]
      exact List.Perm.append_left _ List.perm_append_comm
    refine hp.nodup_iff.mpr (List.nodup_append.mpr ⟨h.nd, by simp, fun a ha b hb => ?_⟩)
    rw [List.mem_singleton.mp hb]
    rintro rfl
    exact hs ha
  · rcases (mem g).mp hg with z | rfl
    · exact h.ok g z
    · exact hso
  · rcases List.mem_append.mp hg with z | z
    · exact h.okl g (List.mem_append_left _ z)
    · obtain ⟨x, hx, hgx⟩ := (hpush g).mp z
      exact grp_ok he hm hso (hL.num x hx) hgx
  · rcases List.mem_append.mp hg with z | z
    · exact h.f0 g z
    · rw [List.mem_singleton.mp z]; exact hf
  · rcases List.mem_append.mp ht with z | z
    · exact key g (h.cl t z x hx g hg)
    · rw [List.mem_singleton.mp z] at hg
      exact .inr (List.mem_append_right _ ((hpush g).mpr ⟨x, hx, hg⟩))
  · rw [List.length_append, List.length_append, List.length_singleton]
    omega
/-! ### ranks -/
/-- n is the least number within which s may be found -/
def Least (e : Nat) (lot : List Int) (n : Nat) (s : St) : Prop := Wn e lot n s ∧ ∀ m, m < n → ¬ Wn e lot m s
theorem least_ex {n : Nat} {s : St} (h : Wn e lot n s) : ∃ k, k ≤ n ∧ Least e lot k s := by
  obtain ⟨k, h1, h2, h3⟩ := st_least (p := fun k => Wn e lot k s) n h
  exact ⟨k, h1, h2, h3⟩
theorem least_uniq {n m : Nat} {s : St} (h : Least e lot n s) (k : Least e lot m s) : n = m := by
  rcases Nat.lt_trichotomy n m with z | z | z
  · exact absurd h.1 (k.2 n z)
  · exact z
  · exact absurd k.1 (h.2 m z)
structure P2 (e : Nat) (lot : List Int) (sd fd : List St) (r : Nat) (rk : List (St × Nat)) : Prop where
  nd : (rk.map (·.1)).Nodup
  sub : ∀ p ∈ rk, p.1 ∈ sd ++ fd
  spec : ∀ s ∈ sd ++ fd, ∀ n, (s, n) ∈ rk ↔ Least e lot n s ∧ n ≤ r
theorem P2.keys {sd fd : List St} {r : Nat} {rk : List (St × Nat)} (h : P2 e lot sd fd r rk) {s : St} (hs : s ∈ sd ++ fd) : s ∈ rk.map (·.1) ↔ Wn e lot r s := by
  constructor
  · intro z
    obtain ⟨p, hp, rfl⟩ := List.mem_map.mp z
    have := (h.spec p.1 hs p.2).mp hp
    exact this.1.1.le this.2
  · intro z
    obtain ⟨k, h1, h2⟩ := least_ex z
    exact List.mem_map.mpr ⟨(s, k), (h.spec s hs k).mpr ⟨h2, h1⟩, rfl⟩
/-- which of the states come in this round -/
def comes (e : Nat) (lot : List Int) (ks : List St) (s : St) : Bool := lot.any fun x => (grpF e s x).all fun g => decide (g ∈ ks)
def newR (e : Nat) (lot : List Int) (sd : List St) (ks : List St) : List St := sd.filter fun s => !decide (s ∈ ks) && comes e lot ks s
theorem comes_iff {ks : List St} {s : St} : comes e lot ks s = true ↔ ∃ x ∈ lot, ∀ g ∈ grpF e s x, g ∈ ks := by
  unfold comes
  rw [List.any_eq_true]
  constructor
  · rintro ⟨x, hx, h⟩
    exact ⟨x, hx, fun g hg => of_decide_eq_true (List.all_eq_true.mp h g hg)⟩
  · rintro ⟨x, hx, h⟩
    exact ⟨x, hx, List.all_eq_true.mpr fun g hg => decide_eq_true (h g hg)⟩
theorem P2.new {sd fd : List St} {r : Nat} {rk : List (St × Nat)} (h : P2 e lot sd fd r rk) (nd : (sd ++ fd).Nodup) (f1 : ∀ s ∈ fd, Fnd e lot s) (f0 : ∀ s ∈ sd, ¬ Fnd e lot s) (cl : ∀ s ∈ sd, ∀ x ∈ lot, ∀ g ∈ grpF e s x, g ∈ sd ++ fd) :
    P2 e lot sd fd (r + 1) (rk ++ (newR e lot sd (rk.map (·.1))).map fun s => (s, r + 1)) ∧ (∀ s, s ∈ newR e lot sd (rk.map (·.1)) ↔ s ∈ sd ++ fd ∧ Least e lot (r + 1) s) := by
  have hnew : ∀ s, s ∈ newR e lot sd (rk.map (·.1)) ↔ s ∈ sd ++ fd ∧ Least e lot (r + 1) s := fun s => by
    unfold newR
    rw [List.mem_filter]
    constructor
    · rintro ⟨hs, hc⟩
      have hsD : s ∈ sd ++ fd := List.mem_append_left _ hs
      rw [Bool.and_eq_true] at hc
      obtain ⟨c1, c2⟩ := hc
      have hn : ¬ Wn e lot r s := fun z => by
        rw [decide_eq_true ((h.keys hsD).mpr z)] at c1
        cases c1
      obtain ⟨x, hx, hg⟩ := comes_iff.mp c2
      refine ⟨hsD, .inr ⟨x, hx, fun g hg' => (h.keys (cl s hs x hx g hg')).mp (hg g hg')⟩, fun m hm z => hn (z.le (by omega))⟩
    · rintro ⟨hsD, hl⟩
      have hn : ¬ Wn e lot r s := hl.2 r (Nat.lt_succ_self r)
      have hs : s ∈ sd := by
        rcases List.mem_append.mp hsD with z | z
        · exact z
        · exact absurd (Wn.le (n := 0) (f1 s z) (Nat.zero_le r)) hn
      refine ⟨hs, ?_⟩
      rw [Bool.and_eq_true]
      refine ⟨by rw [decide_eq_false (fun z => hn ((h.keys hsD).mp z))]; rfl, comes_iff.mpr ?_⟩
      rcases hl.1 with z | ⟨x, hx, hg⟩
      · exact absurd z (f0 s hs)
      · exact ⟨x, hx, fun g hg' => (h.keys (cl s hs x hx g hg')).mpr (hg g hg')⟩
  refine ⟨⟨?_, fun p hp => ?_, fun s hs n => ?_⟩, hnew⟩
  · rw [List.map_append, List.map_map]
    refine List.nodup_append.mpr ⟨h.nd, ?_, fun a ha b hb => ?_⟩
    · have : ((newR e lot sd (rk.map (·.1))).map ((·.1) ∘ fun s => (s, r + 1))) = newR e lot sd (rk.map (·.1)) := List.map_id _
      rw [this]
      exact (List.nodup_append.mp nd).1.filter _
    · obtain ⟨s, hs, rfl⟩ := List.mem_map.mp hb
      rintro rfl
      have := (List.mem_filter.mp hs).2
      rw [decide_eq_true ha] at this
      cases this
  · rcases List.mem_append.mp hp with z | z
    · exact h.sub p z
    · obtain ⟨s, hs, rfl⟩ := List.mem_map.mp z
      exact ((hnew s).mp hs).1
  · rw [List.mem_append, h.spec s hs, List.mem_map]
    constructor
    · rintro (⟨z1, z2⟩ | ⟨t, ht, et⟩)
      · exact ⟨z1, by omega⟩
      · cases et
        exact ⟨((hnew _).mp ht).2, Nat.le_refl _⟩
    · rintro ⟨z1, z2⟩
      by_cases c : n ≤ r
      · exact .inl ⟨z1, c⟩
      · have : n = r + 1 := by omega
        subst this
        exact .inr ⟨s, (hnew s).mpr ⟨hs, z1⟩, rfl⟩
/-- what ranks_of leaves -/
structure RkOk (e : Nat) (lot : List Int) (start : St) (rk : List (St × Nat)) : Prop where
  nd : (rk.map (·.1)).Nodup
  me : ∀ n, (start, n) ∈ rk ↔ Least e lot n start
  grp : ¬ Fnd e lot start → ∀ x ∈ lot, ∀ g ∈ grpF e start x, ∀ n, (g, n) ∈ rk ↔ Least e lot n g
theorem P2.done {sd fd : List St} {r : Nat} {rk : List (St × Nat)} (h : P2 e lot sd fd r rk) (f0 : ∀ s ∈ sd, ¬ Fnd e lot s) (f1 : ∀ s ∈ fd, Fnd e lot s) (cl : ∀ s ∈ sd, ∀ x ∈ lot, ∀ g ∈ grpF e s x, g ∈ sd ++ fd) (hst : start ∈ sd ++ fd)
    (stop : ∀ s ∈ sd ++ fd, ¬ Least e lot r s) (hr : 1 ≤ r) : RkOk e lot start rk := by
  -- nothing comes behind r
  have none_ : ∀ n, r ≤ n → ∀ s ∈ sd ++ fd, ¬ Least e lot n s := by
    intro n
    induction n with
    | zero =>
      intro hn s hs
      have : r = 0 := by omega
      subst this
      exact stop s hs
    | succ n ih =>
      intro hn s hs hl
      by_cases c : r = n + 1
      · subst c; exact stop s hs hl
      · have hrn : r ≤ n := by omega
        have hsd : s ∈ sd := by
          rcases List.mem_append.mp hs with z | z
          · exact z
          · exact absurd (Wn.le (n := 0) (f1 s z) (Nat.zero_le n)) (hl.2 n (Nat.lt_succ_self n))
        rcases hl.1 with z | ⟨x, hx, hg⟩
        · exact f0 s hsd z
        · cases n with
          | zero => omega
          | succ n =>
            refine hl.2 (n + 1) (Nat.lt_succ_self _) (.inr ⟨x, hx, fun g hg' => ?_⟩)
            obtain ⟨k, k1, k2⟩ := least_ex (hg g hg')
            have hgD := cl s hsd x hx g hg'
            have : k ≤ n := by
              refine Decidable.byContradiction fun z => ?_
              have : k = n + 1 := by omega
              subst this
              exact ih (by omega) g hgD k2
            exact k2.1.le this
  have all_ : ∀ s ∈ sd ++ fd, ∀ n, (s, n) ∈ rk ↔ Least e lot n s := fun s hs n => by
    rw [h.spec s hs]
    exact ⟨fun z => z.1, fun z => ⟨z, by
      refine Decidable.byContradiction fun c => none_ n (by omega) s hs z⟩⟩
  refine ⟨h.nd, all_ start hst, fun hf x hx g hg => all_ g ?_⟩
  rcases List.mem_append.mp hst with z | z
  · exact cl start z x hx g hg
  · exact absurd (f1 start z) hf
end
end J

-- JDB
set_option Elab.async false
set_option linter.all false
set_option maxRecDepth 100000
set_option maxHeartbeats 4000000
namespace J
open PySem PySem.Spec PyProof.Rows L2
section
variable {X : Cx} {G : Gm} {S S1 S2 S3 : Sto} {a b c e : Expr} {st : Stmt} {rest body els : List Stmt} {D : DE} {pos p p2 : Pos}
theorem js_pr3 {x y z : Str} {px py pz pt pt2 : Pos} {kt k2 : Nat} (i j l : Nat) (hN : X.N.Nodup) (ha : JAX X [a, b, c] G S fun ws S1 => ∃ w w' w'', ws = [w, w', w''] ∧ JS X rest (((G.set i (some w)).set j (some w')).set l (some w'')) S1 D) (hi : X.N[i]? = some x := by rfl) (hj : X.N[j]? = some y := by rfl) (hl : X.N[l]? = some z := by rfl) (hij : i ≠ j := by decide) (hil : i ≠ l := by decide) (hjl : j ≠ l := by decide) (hc : X.calm = true := by rfl)
    (hx : X.env.scope.names.lookup x = some .local := by rfl) (hy : X.env.scope.names.lookup y = some .local := by rfl) (hz : X.env.scope.names.lookup z = some .local := by rfl) (hw : swappedStores [.Tuple [.Name x px, .Name y py, .Name z pz] kt pt] (.Tuple [a, b, c] k2 pt2) X.env = pure (some [x, y, z]) := by rfl)
    (hs : swapsWithSole [.Tuple [.Name x px, .Name y py, .Name z pz] kt pt] (.Tuple [a, b, c] k2 pt2) pos.line X.env = pure false := by rfl) :
    JS X (.Assign [.Tuple [.Name x px, .Name y py, .Name z pz] kt pt] (.Tuple [a, b, c] k2 pt2) pos :: rest) G S D := js_par3 (ps_par3 hc hN hi hj hl hij hil hjl hx hy hz pa_w hw hs) ha
/-- d.get(k, x) -/
def tNGet (W : Wd) (td ty tx : TE) : TE := fun σ H Q => td σ H fun x H1 => ∃ a, x = .ref a ∧ (∃ xs, Rd H1 a (DNO W.P W.w a xs)) ∧ ty σ H1 fun y H2 => tx σ H2 fun z H3 => ∃ xs t k, y = .ref t ∧ Rd H3 a (DNO W.P W.w a xs) ∧ NKs W.K H3 xs ∧ Dq W.K H3 (.ref t) k.data ∧ k.depth ≤ 8 ∧ Q ((findN xs k).getD z) H3
theorem pe_nget {o e f : Expr} {td ty tx : TE} {apos cpos : Pos} (hu : X.A.units + 64 < cLine) (ho : PE X o td) (he : PE X e ty) (hf : PE X f tx) (m : M2 X o "get" apos e f cpos) : PE X (.Call (.Attribute o "get" apos) [e, f] [] cpos) (tNGet (wd X) td ty tx) := by
  refine ⟨fun pins s σ H Q I h => ?_⟩
  refine wpAny_Call_method m.base m.few m.line PySem.F.plainAttrs_dict PySem.F.slot_dict_get PySem.F.type_dict_get (thn (ho.run pins s σ H _ I h) fun u s1 ⟨x, H1, I1, rx, a, ex, ⟨xs, d⟩, q1⟩ => ?_)
  subst ex
  obtain rfl : u = Value.ref a := rx
  have hT := dn_typeIs I1 d
  refine ⟨hT, fun b eb => ?_, ?_⟩
  · cases eb
    obtain ⟨⟨_, _, _, vs, _, o, es, ep, k1, k2, _⟩, _⟩ := (show ObjOk X.prog X.w H1 s1.heap a (.ext fun h => DNat X.prog X.w h a xs) from d.ok I1.hok)
    exact ⟨o, k1, k2.2.1⟩
  rw [m.trees]
  refine Calls.callWith_builtin rfl (Calls.evalArgs_plain (Calls.spliced_cons (thn (he.run pins s1 σ H1 _ I1 q1) fun iv s2 ⟨y, H2, I2, ry, q2⟩ =>
    Calls.spliced_cons (thn (hf.run pins s2 σ H2 _ I2 q2) fun fv s3 ⟨z, H3, I3, rz, ys, t, k, ey, d3, hk, ht, hd, q3⟩ => Calls.spliced_nil ?_))))
  subst ey
  cases ry
  obtain ⟨h1, h2, ws, h3, h4⟩ := dn_get I3 d3 hk
  refine call_meetsIn PySem.F.slot_dict_get h4.typeIs PySem.F.entry_dict_get (PySem.F.args_dict_get_3 _ _ _) (meetsH_dict_get_default (nestedKind X.prog X.w) a t h1 fv) ⟨(by show X.A.units + 1 + 8 < cLine; omega), k, ws, ⟨key_of_dq I3 k _ _ ht rfl, hd⟩, h4, ⟨_, H3, I3.tok _, ?_, q3⟩⟩
  have e1 := (nrel_at (k := k) h3).1
  cases c : findN ys k with
  | none =>
    rw [c] at e1
    cases c2 : atKey ws k with
    | none => exact rz
    | some p => rw [c2] at e1; cases e1
  | some v =>
    obtain ⟨p, e2, e3⟩ := (nrel_at h3).2 _ c
    rw [e2]
    exact e3
theorem je_nget {f : Expr} {apos cpos : Pos} {q : Addr} {kvs : List DK} {ks : List NestedKey} {d : PyData} (hu : X.A.units + 64 < cLine) (m : M2 X a "get" apos e f cpos) (ho : JE X a G S (.o q) S) (he : JE X e G S (.d (NestedKey.tup ks).data) S) (hf : JE X f G S (.d d) S) (hs : IsN S q kvs) (hd : (NestedKey.tup ks).depth ≤ 8) :
    JE X (.Call (.Attribute a "get" apos) [e, f] [] cpos) G S (.d ((findD kvs (.tup ks)).getD d)) S := fun B σ H g sl =>
  wE_of (pe_nget hu pe_w pe_w pe_w m) (wE_mono (ho B σ H g sl) fun v H1 ⟨B1, w1, g1, r1⟩ => by
    cases (show v = .ref q from r1)
    obtain ⟨ys, k1, _⟩ := hs.to g1
    refine ⟨q, rfl, ⟨ys, k1⟩, wE_mono (he B1 σ H1 g1 (sl.mono w1.b)) fun vy H2 ⟨B2, w2, g2, r2⟩ => wE_mono (hf B2 σ H2 g2 (sl.mono (w1.b.trans w2.b))) fun vz H3 ⟨B3, w3, g3, r3⟩ => ?_⟩
    obtain ⟨xs, k2, k3⟩ := hs.to g3
    obtain ⟨t, rfl⟩ := dq_ref r2
    refine ⟨xs, t, .tup ks, rfl, k2, (entN_keys k3).mono g3.ex, dp_mono g3.ex _ _ (dp_mono w3.b.rd _ _ r2), hd, B3, (w1.trans g1 w2).trans g2 w3, g3, ?_⟩
    have e1 := (entN_find (k := .tup ks) k3).1
    cases c : findD kvs (.tup ks) with
    | none =>
      rw [c] at e1
      cases c2 : findN xs (.tup ks) with
      | none => exact r3
      | some p => rw [c2] at e1; cases e1
    | some d' =>
      obtain ⟨v', e2, e3⟩ := (entN_find k3).2 _ c
      rw [e2]
      exact e3)
end
/-! ### three owned objects -/
def St3 (S : Sto) (a b c : Addr) (x y z : MO) : Sto := sset (sset (sset S a x) b y) c z
section
variable {S : Sto} {a b c : Addr} {x y z m : MO} (ab : a ≠ b) (ac : a ≠ c) (bc : b ≠ c)
include ab ac in
theorem st3_a : St3 S a b c x y z a = some x := by unfold St3; rw [sset_ne ac, sset_ne ab, sset_same]
include bc in
theorem st3_b : St3 S a b c x y z b = some y := by unfold St3; rw [sset_ne bc, sset_same]
theorem st3_c : St3 S a b c x y z c = some z := by unfold St3; rw [sset_same]
include ab ac in
theorem st3_ua : sset (St3 S a b c x y z) a m = St3 S a b c m y z := by
  unfold St3
  rw [sset_comm (Ne.symm ac), sset_comm (Ne.symm ab), sset_sset]
include bc in
theorem st3_ub : sset (St3 S a b c x y z) b m = St3 S a b c x m z := by
  unfold St3
  rw [sset_comm (Ne.symm bc), sset_sset]
theorem st3_uc : sset (St3 S a b c x y z) c m = St3 S a b c x y m := by
  unfold St3
  rw [sset_sset]
end
/-! ### the dicts -/
abbrev sdD (e : Nat) (lot : List Int) (sd : List St) : List DK := sd.map fun s => (NestedKey.tup (stL s), PyData.list (lot.map (anD e s)))
abbrev rkD (rk : List (St × Nat)) : List DK := rk.map fun p => (NestedKey.tup (stL p.1), PyData.int (p.2 : Int))
theorem stL_d8 (s : St) : (NestedKey.tup (stL s)).depth ≤ 8 := Nat.le_trans (stL_depth s) (by decide)
theorem sd_pos {e : Nat} {lot : List Int} {s : St} {sd : List St} (h : s ∈ sd) : findD (sdD e lot sd) (.tup (stL s)) = some (.list (lot.map (anD e s))) := (findD_map (ky := stL) stL_inj (fun s => PyData.list (lot.map (anD e s))) s sd).trans (if_pos h)
theorem sd_neg {e : Nat} {lot : List Int} {s : St} {sd : List St} (h : s ∉ sd) : findD (sdD e lot sd) (.tup (stL s)) = none := (findD_map (ky := stL) stL_inj (fun s => PyData.list (lot.map (anD e s))) s sd).trans (if_neg h)
theorem sd_isSome (e : Nat) (lot : List Int) (s : St) (sd : List St) : (findD (sdD e lot sd) (.tup (stL s))).isSome = decide (s ∈ sd) := by
  by_cases h : s ∈ sd
  · rw [sd_pos h, decide_eq_true h]; rfl
  · rw [sd_neg h, decide_eq_false h]; rfl
theorem rkD_cons (p : St × Nat) (rk : List (St × Nat)) : rkD (p :: rk) = (NestedKey.tup (stL p.1), PyData.int (p.2 : Int)) :: rkD rk := rfl
theorem rk_isSome (s : St) : ∀ rk : List (St × Nat), (findD (rkD rk) (.tup (stL s))).isSome = decide (s ∈ rk.map (·.1))
  | [] => by simp [findD]
  | p :: rk => by
    have ih := rk_isSome s rk
    unfold findD at ih ⊢
    rw [rkD_cons, List.map_cons, List.find?_cons]
    by_cases c : p.1 = s
    · subst c
      rw [decide_eq_true rfl]
      simp
    · rw [decide_eq_false (fun z => c (stL_inj _ _ (by injection z)))]
      show Option.isSome (Option.map _ _) = _
      rw [ih]
      have c' : ¬ s = p.1 := fun z => c z.symm
      simp [c']
theorem rk_find {s : St} {n : Nat} : ∀ {rk : List (St × Nat)}, (rk.map (·.1)).Nodup → (s, n) ∈ rk → findD (rkD rk) (.tup (stL s)) = some (.int (n : Int))
  | [], _, h => by cases h
  | p :: rk, nd, h => by
    rw [List.map_cons] at nd
    obtain ⟨n1, n2⟩ := List.nodup_cons.mp nd
    unfold findD
    rw [rkD_cons, List.find?_cons]
    rcases List.mem_cons.mp h with rfl | h
    · rw [decide_eq_true rfl]; rfl
    · have c : ¬ p.1 = s := fun z => n1 (by rw [z]; exact List.mem_map.mpr ⟨(s, n), h, rfl⟩)
      rw [decide_eq_false (fun z => c (stL_inj _ _ (by injection z)))]
      exact rk_find n2 h
theorem rk_none {s : St} {rk : List (St × Nat)} (h : s ∉ rk.map (·.1)) : findD (rkD rk) (.tup (stL s)) = none := by
  have := rk_isSome s rk
  rw [decide_eq_false h] at this
  cases c : findD (rkD rk) (.tup (stL s)) with
  | none => rfl
  | some _ => rw [c] at this; cases this
theorem rk0_keys (fd : List St) : ((fd.map fun s => (s, 0)).map (·.1) : List St) = fd := by
  rw [List.map_map]
  exact List.map_id _
end J

-- JDBx
set_option Elab.async false
set_option linter.all false
set_option maxRecDepth 100000
set_option maxHeartbeats 4000000
namespace J
open PySem PySem.Spec PyProof.Rows L2
section
variable {X : Cx} {G : Gm} {S S1 S2 S3 : Sto} {a b c e : Expr} {st : Stmt} {rest body els : List Stmt} {D : DE} {pos p p2 : Pos}
/-- (a, b, ..) = (x, y, ..) by way of the tuple, some of the values owned -/
theorem js_tupX {es ts : List Expr} {kt k2 : Nat} {pt pt2 : Pos} (n : Nat) (ha : JAX X es G S fun ws S1 => ws.length = n ∧ ∃ G1 js, JGs X ts S1 ws js G G1 ∧ JS X rest G1 S1 D) (hn : (assignEach ts X.env).length = n := by rfl) (hl : n ≤ 1000 := by decide) (hc : X.calm = true := by rfl) (hst : (assignEach ts X.env).findIdx? (·.1) = none := by rfl)
    (hs : swapsWithSole [.Tuple ts kt pt] (.Tuple es k2 pt2) pos.line X.env = pure false := by rfl) (hw : swappedStores [.Tuple ts kt pt] (.Tuple es k2 pt2) X.env = pure none := by rfl)
    (h1 : (assignEach [.Tuple ts kt pt] X.env).map (·.2) = [assign (.Tuple ts kt pt) X.env] := by rfl) : JS X (.Assign [.Tuple ts kt pt] (.Tuple es k2 pt2) pos :: rest) G S D := js_cons fun B σ H g sl =>
  wS_of (ps_asg pe_w pg_w hs hw h1) (wE_of (pe_tup pa_w) (wA_mono (ha B σ H g sl) fun vs H1 ⟨ws, S1, ⟨B1, w1, g1, r1⟩, hlen, G1, js, hg, h⟩ => by
    have hv : vs.length = n := by rw [r1.len, hlen]
    refine ⟨Nat.le_of_lt (small1000 (by omega)), fun p hp => ?_⟩
    obtain ⟨g2, w2⟩ := g1.frozen (o := .tup vs) hp (fun _ _ z => by cases z)
    exact wG_of (pg_tup (n := n) hc pgs_w hn hst) ⟨p, vs, rfl, .inl (.inl upd_same), hv, hg _ σ _ vs g2 ((sl.mono w1.b).mono w2.b) (r1.mono w2.b) _ fun σ' s' _ => ⟨_, G1, S1, w1.trans g1 w2, g2, s', h⟩⟩))
end
end J

-- JDC
set_option Elab.async false
set_option linter.all false
set_option maxRecDepth 100000
set_option maxHeartbeats 4000000
namespace J
open PySem PySem.Spec PyProof.Rows L2
theorem snoc_or {α : Type} (l : List α) : l = [] ∨ ∃ k x, l = k ++ [x] := by
  cases l with
  | nil => exact .inl rfl
  | cons y l => exact .inr ⟨(y :: l).dropLast, (y :: l).getLast (by simp), (List.dropLast_concat_getLast (by simp)).symm⟩
theorem pushed_succ {e : Nat} {lot : List Int} {s : St} {i : Nat} {x : Int} (h : lot[i]? = some x) : pushed e lot s (i + 1) = pushed e lot s i ++ grpF e s x := by
  unfold pushed
  rw [List.take_succ, h, List.flatMap_append]
  show _ ++ List.flatMap _ [x] = _
  simp
def rkPhi (e : Nat) (lot : List Int) (st0 : St) : List DK → Prop := fun kvs => ∃ rk : List (St × Nat), kvs = rkD rk ∧ RkOk e lot st0 rk
section
variable {P : Program} {w : World} {K : PySem.W.Frag} {mg : Str → Option Value} {base : Heap}
def rRanks : List Wv → Sto → MO → Sto → Prop := fun ds S m S' => ∃ (e : Nat) (lot : List Int) (ms : List TP) (st0 : St), ds = [.d (fD 2 e), .d (lotD lot), .d (stD st0)] ∧ e ≤ 2 ∧ LotOk e lot ∧ Mss ms ∧ StOk e ms st0 ∧ m = .dinv (rkPhi e lot st0) ∧ S' = S
theorem ok_ranks (T : Tab K mg) : OkN P w base T.ranks_of 12 rRanks := fn_n T.ranks_of.F sc_ranks_of (fun _ _ _ _ ⟨_, _, _, _, e, _⟩ => by rw [e]; rfl) fun cdv A outer s0 H E hr ds S mm0 S' ⟨e, lot, ms, st0, e1, he, hL, hm, hs, er, eS⟩ => by
  subst e1 er eS
  have hu := hr.units
  have hL4 := hL.len
  refine js_tupX 3 (jax_new jn_dict fun q1 hq1 => jax_new (jn_lst (ds := [stD st0]) (a1 (vr 2))) fun l hl => jax_new jn_dict fun q2 hq2 => jax_nil ⟨rfl, _, _, jgs_cons (jg_name (i := 3) sc_ranks_of.nd rfl) (jgs_cons (jg_name (i := 4) sc_ranks_of.nd rfl) (jgs_cons (jg_name (i := 5) sc_ranks_of.nd rfl) jgs_nil)), ?_⟩)
  have n1 : q1 ≠ l := fun z => by rw [← z, sset_same] at hl; cases hl
  have n2 : l ≠ q2 := fun z => by rw [← z, sset_same] at hq2; cases hq2
  have n3 : q1 ≠ q2 := fun z => by rw [← z, sset_ne n1, sset_same] at hq2; cases hq2
  have hl0 : S' l = none := by rwa [sset_ne (Ne.symm n1)] at hl
  have hq20 : S' q2 = none := by rwa [sset_ne (Ne.symm n2), sset_ne (Ne.symm n3)] at hq2
  refine js_while (m0 := 13 * 281216 + 1) (Pv := fun mm G S => ∃ (sd fd lf : List St) (g6 g7 g8 g9 g10 g11 g12 : Option Wv), S = St3 S' q1 l q2 (.dct (sdD e lot sd)) (.lst (lf.map stD)) (.dct (rkD (fd.map fun s => (s, 0)))) ∧ G = [some (.d (fD 2 e)), some (.d (lotD lot)), some (.d (stD st0)), some (.o q1), some (.o l), some (.o q2), g6, g7, g8, g9, g10, g11, g12] ∧
    P1 e lot ms st0 sd fd lf ∧ 13 * (281216 - (sd.length + fd.length)) + lf.length ≤ mm) PassesOwn.never ⟨[], [], [st0], none, none, none, none, none, none, none, rfl, rfl, ?_, by simp⟩ ?_
  · exact ⟨List.nodup_nil, fun s h => (by cases h), fun s h => by rw [List.mem_singleton.mp h]; exact hs, fun s h => (by cases h), fun s h => (by cases h), fun s h => (by cases h), .inr (List.mem_singleton.mpr rfl), by simp⟩
  rintro mm G' S2 ⟨sd, fd, lf, g6, g7, g8, g9, g10, g11, g12, rfl, rfl, M, hmm⟩
  have hcnt := M.count he hm
  refine ⟨_, _, jt_cmp (op_neE hr.units0) (vr 4) (JE.frz (jn_lst (ds := []) ja_nil)) (rj_eqE (.o (st3_b n2))), fun hk => ?_, fun hk => ?_⟩
  · -- one state is taken
    obtain ⟨lf', s, rfl⟩ : ∃ k x, lf = k ++ [x] := by
      rcases snoc_or lf with rfl | h
      · exact absurd hk (by decide)
      · exact h
    rw [List.length_append, List.length_singleton] at hmm
    refine js_set (i := 6) sc_ranks_of.nd rfl (je_pop (ds := lf'.map stD) (d := stD s) (pe_bm0 PySem.F.plainAttrs_list PySem.F.slot_list_pop PySem.F.type_list_pop mt_pop pe_w) (vr 4) (by rw [st3_b n2, List.map_append]; rfl)) ?_
    rw [st3_ub n2]
    have hsz := M.sz
    rw [List.length_append, List.length_singleton] at hsz
    refine js_if (k := decide (s ∈ sd ++ fd)) (jt_w (jw_or (jt_cmp (op_inN hu) (JE.is (vr 6) (by rw [stL_data])) (vr 3) (JRis (rj_inN (ks := stL s) (.m (st3_a n1 n3)) (stL_d8 s)) (sd_isSome e lot s sd))) (fun h => by rw [decide_eq_true (List.mem_append_left _ (of_decide_eq_true h))]) fun h => jw_or1 (jt_cmp (op_inN hu) (JE.is (vr 6) (by rw [stL_data])) (vr 5) (JRis (rj_inN (ks := stL s) (.m st3_c) (stL_d8 s)) ?_)))) (fun h => js_cont ?_) fun h => js_nil ?_
    · have hns : s ∉ sd := of_decide_eq_false h
      show (findD (rkD (fd.map fun s => (s, 0))) (.tup (stL s))).isSome = _
      rw [rk_isSome, rk0_keys]
      by_cases c : s ∈ fd
      · rw [decide_eq_true c, decide_eq_true (List.mem_append_right _ c)]
      · rw [decide_eq_false c, decide_eq_false (fun z => (List.mem_append.mp z).elim hns c)]
    · exact ⟨mm - 1, by omega, sd, fd, lf', _, _, _, _, _, _, _, rfl, rfl, M.skip (of_decide_eq_true h), by omega⟩
    have hns : s ∉ sd ++ fd := of_decide_eq_false h
    have hso : StOk e ms s := M.okl s (List.mem_append_right _ (List.mem_singleton.mpr rfl))
    by_cases hf : Fnd e lot s
    · -- found
      have M' := M.found hns hf
      have hcnt' := M'.count he hm
      rw [List.length_append, List.length_singleton] at hcnt'
      refine js_ifT (jt_val (je_call (ok_found T) (hr.mono (by decide)) (a3 (vr 0) (vr 1) (vr 6)) ⟨e, lot, ms, s, rfl, he, hL, hm, hso, .inl ⟨hf, rfl⟩, rfl⟩)) ?_
      refine js_putN (ks := stL s) (d := .int 0) hu je_int (vr 5) (JE.is (vr 6) (by rw [stL_data])) st3_c (stL_d8 s) (rk_none ?_) ?_ (js_cont ?_)
      · rw [rk0_keys]
        exact fun z => hns (List.mem_append_right _ z)
      · rw [List.length_map, List.length_map, sizeLine_eq]; omega
      · refine ⟨mm - 1, by omega, sd, fd ++ [s], lf', _, _, _, _, _, _, _, ?_, rfl, M', ?_⟩
        · rw [st3_uc, List.map_append]
          show _ = St3 S' q1 l q2 _ _ (.dct (List.map _ _))
          rw [List.map_append]
          rfl
        · rw [List.length_append, List.length_singleton]; omega
    · -- the groups are pushed
      have M' := M.expand he hm hL hns hf
      have hcnt' := M'.count he hm
      rw [List.length_append, List.length_singleton] at hcnt'
      have hpl := fun i => pushed_len (e := e) (lot := lot) (s := s) (hso.len hm) hL4 i
      refine js_no (jt_val (je_call (ok_found T) (hr.mono (by decide)) (a3 (vr 0) (vr 1) (vr 6)) ⟨e, lot, ms, s, rfl, he, hL, hm, hso, .inr ⟨hf, rfl⟩, rfl⟩)) ?_
      refine js_putN (ks := stL s) (d := .list (lot.map (anD e s))) hu (je_call (ok_answers T) (hr.mono (by decide)) (a3 (vr 0) (vr 1) (vr 6)) ⟨e, lot, ms, s, rfl, he, hL, hm, hso, rfl, rfl⟩) (vr 3) (JE.is (vr 6) (by rw [stL_data])) (st3_a n1 n3) (stL_d8 s) (sd_neg fun z => hns (List.mem_append_left _ z)) ?_ ?_
      · rw [List.length_map, sizeLine_eq]; omega
      rw [st3_ua n1 n3, show sdD e lot sd ++ [(NestedKey.tup (stL s), PyData.list (lot.map (anD e s)))] = sdD e lot (sd ++ [s]) from map_snoc (fun s => (NestedKey.tup (stL s), PyData.list (lot.map (anD e s)))) sd s]
      refine js_for (fun i G S => S = St3 S' q1 l q2 (.dct (sdD e lot (sd ++ [s]))) (.lst ((lf' ++ pushed e lot s i).map stD)) (.dct (rkD (fd.map fun s => (s, 0)))) ∧ ∃ g7 g8, G = [some (.d (fD 2 e)), some (.d (lotD lot)), some (.d (stD st0)), some (.o q1), some (.o l), some (.o q2), some (.d (stD s)), g7, g8, g9, g10, g11, g12]) PassesOwn.never rfl
        (ji_list (ds := lot.map (anD e s)) (je_ix (ix_N hu) (vr 3) (JE.is (vr 6) (by rw [stL_data])) (rj_ixN (ks := stL s) (.m (st3_a n1 n3)) (stL_d8 s) (sd_pos (List.mem_append_right _ (List.mem_singleton.mpr rfl)))))) ⟨by unfold pushed; simp, g7, g8, rfl⟩ (fun _ _ _ _ => trivial) ?_ ?_
      · rintro i d G' S2 hd ⟨rfl, g7, g8, rfl⟩
        rw [List.getElem?_map] at hd
        obtain ⟨x, hx, rfl⟩ := Option.map_eq_some_iff.mp hd
        refine ⟨[7, 8], _, jg_tup (ds := [.int x, grD (grpF e s x)]) rfl (jgs_cons (jg_name (i := 7) sc_ranks_of.nd rfl) (jgs_cons (jg_name (i := 8) sc_ranks_of.nd rfl) jgs_nil)), ?_⟩
        have hg3 : (grpF e s x).length ≤ 3 := Nat.le_trans grp_len (hso.len hm)
        have hpi := hpl i
        refine js_expr (je_extend (pe_bm PySem.F.plainAttrs_list PySem.F.slot_list_extend PySem.F.type_list_extend mt_extR pe_w pa_w) (vr 4) ⟨_, st3_b n2⟩ (a1 (vr 8)) (st3_b n2) ?_) (js_nil ⟨?_, _, _, rfl⟩)
        · rw [List.length_map, List.length_map, List.length_append, sizeLine_eq]; omega
        · rw [st3_ub n2, pushed_succ hx, ← List.append_assoc, List.map_append (l₂ := grpF e s x)]
      · rintro G' S2 ⟨rfl, g7, g8, rfl⟩
        rw [List.length_map]
        have := hpl lot.length
        refine js_nil ⟨mm - 1, by omega, sd ++ [s], fd, lf' ++ pushed e lot s lot.length, _, _, _, _, _, _, _, rfl, rfl, M', ?_⟩
        rw [List.length_append, List.length_append, List.length_singleton]
        omega
  · -- all states are there
    have hlf : lf = [] := by
      cases lf with
      | nil => rfl
      | cons x y => exact absurd hk (by simp)
    subst hlf
    have cl : ∀ s ∈ sd, ∀ x ∈ lot, ∀ g ∈ grpF e s x, g ∈ sd ++ fd := fun s h x hx g hg => (M.cl s h x hx g hg).elim id fun z => by cases z
    have hst : st0 ∈ sd ++ fd := M.st.elim id fun z => by cases z
    have Q0 : P2 e lot sd fd 0 (fd.map fun s => (s, 0)) := by
      refine ⟨by rw [rk0_keys]; exact (List.nodup_append.mp M.nd).2.1, fun p hp => ?_, fun s hsD n => ?_⟩
      · obtain ⟨s, h, rfl⟩ := List.mem_map.mp hp
        exact List.mem_append_right _ h
      · rw [List.mem_map]
        constructor
        · rintro ⟨t, ht, et⟩
          cases et
          exact ⟨⟨M.f1 _ ht, fun m hm => absurd hm (Nat.not_lt_zero m)⟩, Nat.le_refl _⟩
        · rintro ⟨h1, h2⟩
          have : n = 0 := by omega
          subst this
          refine ⟨s, ?_, rfl⟩
          rcases List.mem_append.mp hsD with z | z
          · exact absurd h1.1 (M.f0 s z)
          · exact z
    refine js_unpack (je_tup (ds := [.int 0, .bool true]) (ja_cons je_int (a1 je_bl))) (jg_tup (ds := [.int 0, .bool true]) rfl (jgs_cons (jg_name (i := 9) sc_ranks_of.nd rfl) (jgs_cons (jg_name (i := 10) sc_ranks_of.nd rfl) jgs_nil))) ?_
    refine js_while (m0 := 281216 + 1) (Pv := fun mm G S => ∃ (r : Nat) (go : Bool) (rk : List (St × Nat)) (g6 g7 g8 g11 g12 : Option Wv), S = St3 S' q1 l q2 (.dct (sdD e lot sd)) (.lst []) (.dct (rkD rk)) ∧ G = [some (.d (fD 2 e)), some (.d (lotD lot)), some (.d (stD st0)), some (.o q1), some (.o l), some (.o q2), g6, g7, g8, some (.d (.int (r : Int))), some (.d (.bool go)), g11, g12] ∧
      P2 e lot sd fd r rk ∧ (go = false → 1 ≤ r ∧ ∀ s ∈ sd ++ fd, ¬ Least e lot r s) ∧ (if go = true then 1 + (281216 - rk.length) else 0) ≤ mm) PassesOwn.never ⟨0, true, _, g6, g7, g8, g11, g12, rfl, rfl, Q0, (fun z => nomatch z), by simp; omega⟩ ?_
    clear Q0 g6 g7 g8 g11 g12 mm hmm
    rintro mm G' S2 ⟨r, go, rk, g6, g7, g8, g11, g12, rfl, rfl, Q, hgo, hmm⟩
    refine ⟨go, _, jt_val (vr 10), fun hk => ?_, fun hk => ?_⟩
    · subst hk
      rw [if_pos rfl] at hmm
      have hrl : ∀ (r' : Nat) (rk' : List (St × Nat)), P2 e lot sd fd r' rk' → rk'.length ≤ sd.length + fd.length := fun r' rk' q => by
        have := nodup_le (rk'.map (·.1)) (sd ++ fd) q.nd fun s hs => by
          obtain ⟨p, hp, rfl⟩ := List.mem_map.mp hs
          exact q.sub p hp
        rwa [List.length_map, List.length_append] at this
      have hr0 := hrl r rk Q
      obtain ⟨Q', hnew⟩ := Q.new M.nd M.f1 M.f0 cl
      have hr1 := hrl _ _ Q'
      rw [List.length_append, List.length_map] at hr1
      refine js_aug (i := 9) sc_ranks_of.nd rfl rfl ip_add je_int rj_add ?_
      refine js_setN (i := 11) sc_ranks_of.nd rfl (jn_lst (ds := []) ja_nil) fun pn hpn => ?_
      have a1n : q1 ≠ pn := fun z => by rw [← z, st3_a n1 n3] at hpn; cases hpn
      have a2n : q2 ≠ pn := fun z => by rw [← z, st3_c] at hpn; cases hpn
      refine js_forget (i := 6) (js_forget (i := 7) (js_forget (i := 8) (js_forget (i := 12) ?_)))
      refine js_lock (p := q1) (kvs := sdD e lot sd) (by rw [sset_ne a1n]; exact st3_a n1 n3) fun o u => ?_
      have hS1 : ∀ (m : MO), sset (sset (St3 S' q1 l q2 (.dct (sdD e lot sd)) (.lst []) (.dct (rkD rk))) pn (.lst [])) q1 m = sset (St3 S' q1 l q2 m (.lst []) (.dct (rkD rk))) pn (.lst []) := fun m => by
        rw [sset_comm (Ne.symm a1n), st3_ua n1 n3]
      rw [hS1]
      refine js_for1 (fun i G S => S = sset (St3 S' q1 l q2 (.dlk o u (sdD e lot sd)) (.lst []) (.dct (rkD rk))) pn (.lst ((newR e lot (sd.take i) (rk.map (·.1))).map stD)) ∧ ∃ g6, G = [some (.d (fD 2 e)), some (.d (lotD lot)), some (.d (stD st0)), some (.o q1), some (.o l), some (.o q2), g6, none, none, some (.d (.int ((r : Int) + 1))), some (.d (.bool true)), some (.o pn), none]) PassesOwn.never rfl
        (ji_keysN (vr 3) (by rw [sset_ne a1n]; exact st3_a n1 n3)) ⟨rfl, none, rfl⟩ (fun i G' S2 h => by rw [h.1, sset_ne a1n]; exact st3_a n1 n3) ?_ ?_
      · rintro i d G' S2 hd ⟨rfl, g6, rfl⟩
        rw [List.map_map, List.getElem?_map] at hd
        obtain ⟨s, hs, rfl⟩ := Option.map_eq_some_iff.mp hd
        have hsd : s ∈ sd := List.mem_of_getElem? hs
        have hso : StOk e ms s := M.ok s (List.mem_append_left _ hsd)
        have hq1 : sset (St3 S' q1 l q2 (.dlk o u (sdD e lot sd)) (.lst []) (.dct (rkD rk))) pn (.lst ((newR e lot (sd.take i) (rk.map (·.1))).map stD)) q1 = some (.dlk o u (sdD e lot sd)) := by rw [sset_ne a1n]; exact st3_a n1 n3
        have hq2 : sset (St3 S' q1 l q2 (.dlk o u (sdD e lot sd)) (.lst []) (.dct (rkD rk))) pn (.lst ((newR e lot (sd.take i) (rk.map (·.1))).map stD)) q2 = some (.dct (rkD rk)) := by rw [sset_ne a2n]; exact st3_c
        have htk : newR e lot (sd.take (i + 1)) (rk.map (·.1)) = newR e lot (sd.take i) (rk.map (·.1)) ++ (if (!decide (s ∈ rk.map (·.1)) && comes e lot (rk.map (·.1)) s) = true then [s] else []) := by
          unfold newR
          rw [List.take_succ, hs, List.filter_append]
          show _ ++ List.filter _ [s] = _
          rw [List.filter_cons]
          rfl
        have hnl : (newR e lot (sd.take i) (rk.map (·.1))).length ≤ sd.length := by
          unfold newR
          refine Nat.le_trans (List.length_filter_le _ _) ?_
          rw [List.length_take]; omega
        refine ⟨[6], _, jg_name (i := 6) sc_ranks_of.nd rfl, ?_⟩
        refine js_if (k := !decide (s ∈ rk.map (·.1))) (jt_cmp (op_notInN hu) (vr 6) (vr 5) (JRis (rj_inN (ks := stL s) (.m hq2) (stL_d8 s)) (congrArg Bool.not (rk_isSome s rk)))) (fun hk => ?_) fun hk => js_nil (js_nil ⟨?_, _, rfl⟩)
        · refine js_if (k := comes e lot (rk.map (·.1)) s) (jt_val (JE.is (je_any (bs := lot.map fun x => ((grpF e s x).map fun g => decide (g ∈ rk.map (·.1))).all id) T.b_any (JE.frz (jn_map [("number", 7), ("groups", 8)] sc_ranks_of.nd (blkOk_by (N := n_ranks_of) (sc := defScope s_ranks_of) (by decide +kernel)) (ji_list (ds := lot.map (anD e s)) (je_ix (ix_N hu) (vr 3) (vr 6) (rj_ixN (ks := stL s) (.f hq1) (stL_d8 s) (sd_pos hsd)))) (by simp) (by rw [List.length_map, sizeLine_eq]; omega) trivial
            (fun j d hd => ?_) (by intro i hi; simp at hi; rcases hi with rfl | rfl <;> rfl)))) ?_)) (fun hk2 => ?_) fun hk2 => js_nil (js_nil (js_nil ⟨?_, _, rfl⟩))
          · rw [List.getElem?_map] at hd
            obtain ⟨x, hx, rfl⟩ := Option.map_eq_some_iff.mp hd
            have hg3 : (grpF e s x).length ≤ 3 := Nat.le_trans grp_len (hso.len hm)
            refine ⟨[7, 8], _, _, (by decide), fun s' H' C cl' fp => jg_tup (ds := [.int x, grD (grpF e s x)]) rfl (jgs_cons (jg_name (i := 7) sc_ranks_of.nd rfl) (jgs_cons (jg_name (i := 8) sc_ranks_of.nd rfl) jgs_nil)), fun s' H' C cl' fp => je_all (bs := (grpF e s x).map fun g => decide (g ∈ rk.map (·.1))) T.b_all (JE.frz (jn_map [("group", 12)] sc_ranks_of.nd (blkOk_by (N := n_ranks_of) (by rfl)) (ji_list (ds := (grpF e s x).map stD) (vr 8)) (by simp) (by rw [List.length_map, sizeLine_eq]; omega) trivial fun j2 d2 hd2 => ?_)), ?_⟩
            · rw [List.getElem?_map] at hd2
              obtain ⟨g, hg, rfl⟩ := Option.map_eq_some_iff.mp hd2
              refine ⟨[12], _, .bool (decide (g ∈ rk.map (·.1))), (by decide), fun s' H' C cl' fp => jg_name (i := 12) sc_ranks_of.nd rfl, fun s' H' C cl' fp => je_cmp (op_inN hu) (JE.is (vr 12) (by rw [stL_data])) (vr 5) (JRis (k' := decide (g ∈ rk.map Prod.fst)) (rj_inN (neg := false) (ks := stL g) (.m hq2) (stL_d8 g)) (rk_isSome g rk)), ?_⟩
              rw [List.map_map, List.getElem?_map, hg]
              rfl
            · rw [List.map_map, List.getElem?_map, hx]
              rfl
          · unfold comes
            simp [List.any_map, List.all_map, Function.comp_def]
          · refine js_expr (je_append (d := stD s) (pe_bm PySem.F.plainAttrs_list PySem.F.slot_list_append PySem.F.type_list_append mt_append pe_w pa_w) (vr 11) ⟨_, sset_same⟩ (a1 (JE.is (vr 6) (by rw [← stL_data]; rfl))) sset_same ?_) (js_nil (js_nil (js_nil ⟨?_, _, rfl⟩)))
            · rw [List.length_map, sizeLine_eq]; omega
            · rw [sset_sset, htk, hk, hk2]
              rw [if_pos (by rfl), List.map_append]
              rfl
          · rw [htk, hk2, Bool.and_false, if_neg (by decide), List.append_nil]
        · rw [htk, hk, Bool.false_and, if_neg (by decide), List.append_nil]
      · rintro G' S2 ⟨rfl, g6, rfl⟩
        rw [List.length_map, List.length_map, List.take_length]
        refine ⟨by rw [sset_ne a1n]; exact st3_a n1 n3, ?_⟩
        have hS2 : sset (sset (St3 S' q1 l q2 (.dlk o u (sdD e lot sd)) (.lst []) (.dct (rkD rk))) pn (.lst ((newR e lot sd (rk.map (·.1))).map stD))) q1 (.dct (sdD e lot sd)) = sset (St3 S' q1 l q2 (.dct (sdD e lot sd)) (.lst []) (.dct (rkD rk))) pn (.lst ((newR e lot sd (rk.map (·.1))).map stD)) := by
          rw [sset_comm (Ne.symm a1n), st3_ua n1 n3]
        rw [hS2]
        refine js_frz (i := 11) (p := pn) (ds := (newR e lot sd (rk.map (·.1))).map stD) rfl sset_same ?_
        rw [sdel_sset hpn]
        have hnl : (newR e lot sd (rk.map (·.1))).length ≤ sd.length := List.length_filter_le _ _
        have hnn : (newR e lot sd (rk.map (·.1))).Nodup := (List.nodup_append.mp M.nd).1.filter _
        refine js_for (fun i G S => S = St3 S' q1 l q2 (.dct (sdD e lot sd)) (.lst []) (.dct (rkD (rk ++ ((newR e lot sd (rk.map (·.1))).take i).map fun s => (s, r + 1)))) ∧ ∃ g6, G = [some (.d (fD 2 e)), some (.d (lotD lot)), some (.d (stD st0)), some (.o q1), some (.o l), some (.o q2), g6, none, none, some (.d (.int ((r : Int) + 1))), some (.d (.bool true)), some (.d (.list ((newR e lot sd (rk.map (·.1))).map stD))), none]) PassesOwn.never rfl
          (ji_list (vr 11)) ⟨by simp, _, rfl⟩ (fun _ _ _ _ => trivial) ?_ ?_
        · rintro i d G' S2 hd ⟨rfl, g6, rfl⟩
          rw [List.getElem?_map] at hd
          obtain ⟨s, hs, rfl⟩ := Option.map_eq_some_iff.mp hd
          refine ⟨[6], _, jg_name (i := 6) sc_ranks_of.nd rfl, ?_⟩
          refine js_putN (ks := stL s) (d := .int ((r : Int) + 1)) hu (vr 9) (vr 5) (JE.is (vr 6) (by rw [stL_data])) st3_c (stL_d8 s) (rk_none ?_) ?_ (js_nil ⟨?_, _, rfl⟩)
          · rw [List.map_append, List.map_map]
            have e0 : ((newR e lot sd (rk.map (·.1))).take i).map ((·.1) ∘ fun s => (s, r + 1)) = (newR e lot sd (rk.map (·.1))).take i := List.map_id _
            rw [e0]
            intro z
            rcases List.mem_append.mp z with z | z
            · have := (List.mem_filter.mp (List.mem_of_getElem? hs)).2
              rw [decide_eq_true z] at this
              cases this
            · obtain ⟨j, hj, ej⟩ := List.mem_iff_getElem?.mp z |>.elim fun j hj => (⟨j, by
                  have := (List.getElem?_eq_some_iff.mp hj).1
                  rw [List.length_take] at this
                  omega, by rwa [List.getElem?_take_of_lt (by
                    have := (List.getElem?_eq_some_iff.mp hj).1
                    rw [List.length_take] at this
                    omega)] at hj⟩ : ∃ j, j < i ∧ (newR e lot sd (rk.map (·.1)))[j]? = some s)
              have l1 := (List.getElem?_eq_some_iff.mp ej).1
              have := (List.getElem?_inj l1 hnn).mp (ej.trans hs.symm)
              omega
          · rw [List.length_map, List.length_append, List.length_map, List.length_take, sizeLine_eq]; omega
          · rw [st3_uc, List.take_succ, hs, List.map_append, ← List.append_assoc]
            show _ = St3 S' q1 l q2 _ _ (.dct (List.map _ _))
            rw [List.map_append]
            rfl
        · rintro G' S2 ⟨rfl, g6, rfl⟩
          rw [List.length_map, List.take_length]
          refine js_set (i := 10) sc_ranks_of.nd rfl (je_cmp (op_neE hr.units0) (vr 11) (JE.frz (jn_lst (ds := []) ja_nil)) (rj_eqE .d)) (js_nil ⟨mm - 1, by omega, r + 1, _, _, _, _, _, _, _, rfl, rfl, Q', fun z => ⟨by omega, fun s hs hl => ?_⟩, ?_⟩)
          · have h1 := (hnew s).mpr ⟨hs, hl⟩
            cases c : newR e lot sd (rk.map (·.1)) with
            | nil => rw [c] at h1; cases h1
            | cons x y => rw [c] at z; cases z
          · rw [List.length_append, List.length_map]
            cases c : newR e lot sd (rk.map (·.1)) with
            | nil => simp
            | cons x y =>
              rw [c, List.length_cons] at hr1
              rw [List.length_cons]
              show (if true = true then 1 + (281216 - (rk.length + (y.length + 1))) else 0) ≤ mm - 1
              rw [if_pos rfl]
              omega
    · subst hk
      obtain ⟨hr1, hstop⟩ := hgo rfl
      refine js_ret (vr 5) ⟨q2, rfl, hq20, fun a m ha => ?_⟩
      by_cases c : a = q2
      · subst c
        rw [sset_same] at ha
        cases ha
        exact ⟨_, st3_c, .inv ⟨rk, rfl, Q.done M.f0 M.f1 cl hst hstop hr1⟩⟩
      · rw [sset_ne c] at ha
        refine ⟨m, ?_, .refl m⟩
        unfold St3
        rw [sset_ne c, sset_ne (fun z => by rw [z, hl0] at ha; cases ha), sset_ne (fun z => by rw [z, hq1] at ha; cases ha)]
        exact ha
end
end J

-- JDE
set_option Elab.async false
set_option linter.all false
set_option maxRecDepth 100000
set_option maxHeartbeats 4000000
namespace J
open PySem PySem.Spec PyProof.Rows L2
section
variable {X : Cx} {G : Gm} {S S1 S2 S3 : Sto} {a b c e : Expr} {st : Stmt} {rest body els : List Stmt} {D : DE} {pos p p2 : Pos}
/-- tuple(e), e a list -/
theorem je_tuple {x : Wv} {ds : List PyData} (hm : X.mg "tuple" = none) (ha : JE X a G S x S1) (hx : IsL S1 x ds) (hg : Gl X "tuple" := by rfl) (na : starEach [a] X.env = (false, eval a X.env) :: starEach [] X.env := by rfl) : JE X (.Call (.Name "tuple" p) [a] [] pos) G S (.d (.tuple ds)) S1 := fun B σ H g sl =>
  wE_of (pe_tupleOf hg hm pe_w na) (wE_mono (ha B σ H g sl) fun v H1 ⟨B1, w1, g1, r1⟩ => by
    obtain ⟨q, us, rfl, k1, k2⟩ := hx.to g1 r1
    exact .inl ⟨q, us, rfl, k1, fun l hl => EQ.comp w1 g1 (.newT g1 hl k2)⟩)
end
/-! ### equality of totals -/
theorem eqv_oI : ∀ a b : Option Int, PyData.eqv (oI a) (oI b) = decide (a = b)
  | none, none => rfl
  | none, some _ => rfl
  | some _, none => rfl
  | some x, some y => by
    show (x == y) = _
    simp [BEq.beq]
theorem eqvAll_oI : ∀ as bs : List (Option Int), PyData.eqvAll (as.map oI) (bs.map oI) = decide (as = bs)
  | [], [] => rfl
  | [], _ :: _ => rfl
  | _ :: _, [] => rfl
  | a :: as, b :: bs => by
    show (PyData.eqv (oI a) (oI b) && PyData.eqvAll (as.map oI) (bs.map oI)) = _
    rw [eqv_oI, eqvAll_oI as bs]
    by_cases h : a = b <;> by_cases k : as = bs <;> simp [h, k]
theorem oI_lay : ∀ as : List (Option Int), PyData.canLayAll0 (as.map oI) = true ∧ PyData.depthAll (as.map oI) = 0
  | [] => ⟨rfl, rfl⟩
  | none :: as => by
    obtain ⟨h1, h2⟩ := oI_lay as
    exact ⟨by show (true && PyData.canLayAll0 (as.map oI)) = true; rw [h1]; rfl, by show max 0 (PyData.depthAll (as.map oI)) = 0; rw [h2]; rfl⟩
  | some x :: as => by
    obtain ⟨h1, h2⟩ := oI_lay as
    exact ⟨by show (true && PyData.canLayAll0 (as.map oI)) = true; rw [h1]; rfl, by show max 0 (PyData.depthAll (as.map oI)) = 0; rw [h2]; rfl⟩
theorem oI_shaped (as : List (Option Int)) : SeqAt.shaped (.list (as.map oI)) = true := by
  obtain ⟨h1, h2⟩ := oI_lay as
  have h3 : PyData.depth (.list (as.map oI)) ≤ 64 := by
    simp only [PyData.depth]
    omega
  show (PyData.canLay0 (.list (as.map oI)) && decide (PyData.depth (.list (as.map oI)) ≤ 64)) = true
  rw [Bool.and_eq_true]
  exact ⟨by simp only [PyData.canLay0]; exact h1, decide_eq_true h3⟩
theorem atI_last {α : Type} (xs : List α) (x : α) : atI (xs ++ [x]) (-1) = some x := by
  unfold atI ixN
  rw [if_neg (by decide), if_pos (by rw [List.length_append, List.length_singleton]; omega)]
  show (xs ++ [x])[_]? = _
  have : (-1 + ((xs ++ [x]).length : Int)).toNat = xs.length := by rw [List.length_append, List.length_singleton]; omega
  rw [this, List.getElem?_append_right (Nat.le_refl _), Nat.sub_self]
  rfl
/-! ### the state behind a row -/
/-- the last place -/
def endF (e : Nat) (m : TP) (row : List Int) : Option (List Int) := row.foldl (nxF e m) (some (bgF m))
theorem run_end {e : Nat} {m : TP} : ∀ (row : List Int) (p : Option (List Int)), ∃ ks, p :: runF e m p row = ks ++ [row.foldl (nxF e m) p]
  | [], p => ⟨[], rfl⟩
  | x :: r, p => by
    obtain ⟨ks, h⟩ := run_end r (nxF e m p x)
    exact ⟨p :: ks, by show p :: (nxF e m p x :: runF e m (nxF e m p x) r) = _; rw [h]; rfl⟩
def behF (e : Nat) (ms : List TP) (row : List Int) (told : List (Option Int)) : St := (ms.filter fun m => decide (tolF e m row = told)).map fun m => (m, endF e m row)
section
variable {P : Program} {w : World} {K : PySem.W.Frag} {mg : Str → Option Value} {base : Heap}
/-! ### need_told -/
def rNeedTold : Rel := fun ds S r S' => ∃ told : List (Option Int), ds = [.d (.list (told.map oI))] ∧ r = .d .none ∧ S' = S
theorem ok_need_told (T : Tab K mg) : Ok P w base T.need_told 1 rNeedTold := fn_j T.need_told.F sc_need_told (fun _ _ _ _ ⟨_, e, _⟩ => by rw [e]; rfl) fun cdv A outer s H E hr ds S r S' ⟨told, e1, er, eS⟩ => by
  subst e1 er eS
  refine js_no (jt_notT (je_isi T.b_isinstance (vr 0) kit_list_list T.b_list PyProof.Rows.boot_list)) (js_for (fun i G S => S = S' ∧ ∃ t, G = [some (.d (.list (told.map oI))), t]) PassesOwn.never rfl (ji_list (vr 0)) ⟨rfl, none, rfl⟩ (fun _ _ _ _ => trivial) ?_ fun G' S2 ⟨e1, t, e2⟩ => by subst e1 e2; exact js_nil ⟨.refl _, .refl _⟩)
  rintro i d G' S2 hd ⟨rfl, t, rfl⟩
  rw [List.getElem?_map] at hd
  obtain ⟨x, hx, rfl⟩ := Option.map_eq_some_iff.mp hd
  refine ⟨[1], _, jg_name (i := 1) sc_need_told.nd rfl, ?_⟩
  cases x with
  | none => exact js_ifF (jt_w (jw_and (jt_cmp op_notN (vr 1) je_non (JRis (k' := false) rj_notN rfl)) (fun _ => rfl) fun h => nomatch h)) (js_nil (js_nil ⟨rfl, _, rfl⟩))
  | some x => exact js_no (jt_w (jw_and (jt_cmp op_notN (vr 1) je_non (JRis (k' := true) rj_notN rfl)) (fun h => nomatch h) fun _ => jw_and1 (jt_w (jw_or (jt_notT (je_isi T.b_isinstance (vr 1) kit_int_int T.b_int PyProof.Rows.boot_int)) (fun h => nomatch h) fun _ => jw_or1 (jt_val (je_isi T.b_isinstance (vr 1) kit_int_bool T.b_bool PyProof.Rows.boot_bool)))))) (js_nil ⟨rfl, _, rfl⟩)
/-! ### need_machines -/
abbrev msD (ms : List TP) : PyData := .tuple (ms.map pD)
structure MsOk (ms : List TP) : Prop where
  ne : ms ≠ []
  len : ms.length ≤ 3
  mach : ∀ m ∈ ms, Mach m
  ord : ms.Pairwise ltP
def rNeedMs : Rel := fun ds S r S' => ∃ (e : Nat) (ms : List TP), ds = [.d (fD 2 e), .d (msD ms)] ∧ e ≤ 2 ∧ MsOk ms ∧ r = .d .none ∧ S' = S
theorem ok_need_ms (T : Tab K mg) : Ok P w base T.need_machines 4 rNeedMs := fn_j T.need_machines.F sc_need_machines (fun _ _ _ _ ⟨_, _, e, _⟩ => by rw [e]; rfl) fun cdv A outer s H E hr ds S r S' ⟨e, ms, e1, he, hM, er, eS⟩ => by
  subst e1 er eS
  have hpos : 0 < ms.length := List.length_pos_iff.mpr hM.ne
  have hlen := hM.len
  have hz : (ms.map pD).length < sizeLine := by rw [List.length_map, sizeLine_eq]; omega
  refine js_expr (je_call (ok_need_few T) (hr.mono (by decide)) (a1 (vr 0)) ⟨e, rfl, he, rfl, rfl⟩) ?_
  refine js_no (jt_cmp op_gt (ixT (vr 0)) je_int (JRis (k' := false) rj_gt (decide_eq_false (by omega)))) ?_
  refine js_no (jt_w (jw_or (jt_notT (je_isi T.b_isinstance (vr 1) kit_tup_tup T.b_tuple PyProof.Rows.boot_tuple)) (fun h => nomatch h) fun _ => jw_or (k := false) (jt_not (k := true) (jt_chain (pt_chain op_le op_le pe_w pe_w pe_w) je_int (je_lenT T.b_len (vr 1)) rj_le (fun h => absurd (of_decide_eq_false h) (by rw [List.length_map]; omega)) fun _ => ⟨je_int, JRis rj_le (decide_eq_true (by rw [List.length_map]; omega))⟩)) (fun h => nomatch h) fun _ => jw_or1 (jt_notT
    (je_allT [("one", 2)] T.b_all sc_need_machines.nd (blkOk_by (N := n_need_machines) (sc := defScope s_need_machines) (by decide +kernel)) (ji_tup (vr 1)) hz trivial fun i d hd => ⟨[2], _, by decide, fun s H C cl fp => jg_name (i := 2) sc_need_machines.nd rfl, fun s H C cl fp => ?_⟩)))) ?_
  · rw [List.getElem?_map] at hd
    obtain ⟨m, hm', rfl⟩ := Option.map_eq_some_iff.mp hd
    exact je_call (ok_is_mach T) (hr.mono (by decide)) (a1 (vr 2)) ⟨m, rfl, hM.mach m (List.mem_of_getElem? hm'), rfl, rfl⟩
  refine js_no (jt_notT (je_allT [("one", 2), ("other", 3)] T.b_all sc_need_machines.nd (blkOk_by (N := n_need_machines) (sc := defScope s_need_machines) (by decide +kernel)) (ji_zip (RZ.pi_zipA rfl T.b_zip pa_w) (a2 (vr 1) (je_from1 (vr 1) (by simpa using hM.ne)))) (by rw [List.length_zipWith]; omega) trivial (fun i d hd => ?_) (by intro i hi; simp at hi; rcases hi with rfl | rfl <;> rfl))) (js_nil ⟨.refl _, .refl _⟩)
  obtain ⟨dx, dy, hx, hy, rfl⟩ := zip_get hd
  rw [← List.map_drop] at hy
  rw [List.getElem?_map] at hx hy
  obtain ⟨x, hx', rfl⟩ := Option.map_eq_some_iff.mp hx
  obtain ⟨y, hy', rfl⟩ := Option.map_eq_some_iff.mp hy
  have hlt := zip_next hM.ord hx' hy'
  exact ⟨[2, 3], _, by decide, fun s H C cl fp => jg_tup (ds := [pD x, pD y]) rfl (jgs_cons (jg_name (i := 2) sc_need_machines.nd rfl) (jgs_cons (jg_name (i := 3) sc_need_machines.nd rfl) jgs_nil)), fun s H C cl fp => je_cmp (op_ltP hr.units0) (vr 2) (vr 3) (JRis rj_ltP hlt)⟩
/-! ### state_behind -/
def rBehind : Rel := fun ds S r S' => ∃ (e : Nat) (ms : List TP) (row : List Int) (told : List (Option Int)), ds = [.d (fD 2 e), .d (msD ms), .d (rowD row), .d (.list (told.map oI))] ∧ e ≤ 2 ∧ ms.length ≤ 3 ∧ (∀ m ∈ ms, Mach m) ∧ row.length ≤ 39 ∧ (∀ x ∈ row, Num 2 e x) ∧ r = .d (stD (behF e ms row told)) ∧ S' = S
theorem beh_len {e : Nat} {ms : List TP} {row : List Int} {told : List (Option Int)} : (behF e ms row told).length ≤ ms.length := by
  unfold behF
  rw [List.length_map]
  exact List.length_filter_le _ _
theorem beh_succ {e : Nat} {ms : List TP} {row : List Int} {told : List (Option Int)} {i : Nat} {m : TP} (h : ms[i]? = some m) : behF e (ms.take (i + 1)) row told = behF e (ms.take i) row told ++ (if tolF e m row = told then [(m, endF e m row)] else []) := by
  unfold behF
  rw [List.take_succ, h, List.filter_append, List.map_append]
  show _ ++ List.map _ (List.filter _ [m]) = _
  by_cases c : tolF e m row = told
  · rw [if_pos c]; simp [c]
  · rw [if_neg c]; simp [c]
theorem ok_behind (T : Tab K mg) : Ok P w base T.state_behind 11 rBehind := fn_j T.state_behind.F sc_state_behind (fun _ _ _ _ ⟨_, _, _, _, e, _⟩ => by rw [e]; rfl) fun cdv A outer s H E hr ds S r S' ⟨e, ms, row, told, e1, he, hl3, hm, hl, hn, er, eS⟩ => by
  subst e1 er eS
  have hu := hr.units
  refine js_setN (i := 4) sc_state_behind.nd rfl (jn_lst (ds := []) ja_nil) fun q hq => ?_
  refine js_for (fun i G S => S = sset S' q (.lst ((behF e (ms.take i) row told).map mpD)) ∧ ∃ t, G = [some (.d (fD 2 e)), some (.d (msD ms)), some (.d (rowD row)), some (.d (.list (told.map oI))), some (.o q), t]) PassesOwn.never rfl (ji_tup (vr 1)) ⟨rfl, none, rfl⟩ (fun _ _ _ _ => trivial) ?_ ?_
  · rintro i d G' S2 hd ⟨rfl, t, rfl⟩
    rw [List.getElem?_map] at hd
    obtain ⟨m, hmi, rfl⟩ := Option.map_eq_some_iff.mp hd
    have hmm := hm m (List.mem_of_getElem? hmi)
    have hbl := beh_len (e := e) (ms := ms.take i) (row := row) (told := told)
    rw [List.length_take] at hbl
    refine ⟨[5], _, jg_name (i := 5) sc_state_behind.nd rfl, ?_⟩
    refine js_if (k := decide (tolF e m row = told)) (jt_cmp (op_eqD hu) (je_call (ok_totals_of T) (hr.mono (by decide)) (a3 (vr 0) (vr 5) (vr 2)) ⟨e, m, row, rfl, he, hmm, by omega, hn, rfl, rfl⟩) (vr 3) (JRis (rj_eqD (oI_shaped _) (oI_shaped _)) (eqvAll_oI _ _))) (fun hk => ?_) fun hk => js_nil (js_nil ⟨?_, _, rfl⟩)
    · obtain ⟨ks, hks⟩ := run_end (e := e) (m := m) row (some (bgF m))
      refine js_expr (je_append (d := mpD (m, endF e m row)) (pe_bm PySem.F.plainAttrs_list PySem.F.slot_list_append PySem.F.type_list_append mt_append pe_w pa_w) (vr 4) ⟨_, sset_same⟩ (a1 (je_tup (ds := [pD m, opD (endF e m row)]) (a2 (vr 5) (je_ix ix_list (JE.frz (jn_op op_catR (JE.frz (jn_lst (ds := [plD (bgF m)]) (a1 (je_call (ok_begun T) (hr.mono (by decide)) (a1 (vr 5)) ⟨m, rfl, rfl, rfl⟩)))) (je_call (ok_run T) (hr.mono (by decide)) (a3 (vr 0) (vr 5) (vr 2)) ⟨e, m, row, rfl, he, hmm, by omega, hn, rfl, rfl⟩) (rn_cat .d .d ?_))) (je_un un_neg je_int uj_neg) (rj_ixL .d ?_))))) sset_same ?_) (js_nil (js_nil ⟨?_, _, rfl⟩))
      · rw [List.length_map, run_len, List.length_singleton, sizeLine_eq]; omega
      · have : [plD (bgF m)] ++ (runF e m (some (bgF m)) row).map opD = ks.map opD ++ [opD (endF e m row)] := by
          show (some (bgF m) :: runF e m (some (bgF m)) row).map opD = _
          rw [hks, List.map_append]
          rfl
        rw [this]
        exact atI_last _ _
      · rw [List.length_map, sizeLine_eq]; omega
      · rw [sset_sset, beh_succ hmi, if_pos (of_decide_eq_true hk), List.map_append]
        rfl
    · rw [beh_succ hmi, if_neg (of_decide_eq_false hk), List.append_nil]
  · rintro G' S2 ⟨rfl, t, rfl⟩
    rw [List.length_map, List.take_length]
    exact js_frz (i := 4) rfl sset_same (by
      rw [sdel_sset hq]
      exact js_ret (je_tuple T.b_tuple (vr 4) .d) ⟨.refl _, .refl _⟩)
end
end J

-- JDF
set_option Elab.async false
set_option linter.all false
set_option maxRecDepth 100000
set_option maxHeartbeats 4000000
namespace J
open PySem PySem.Spec PyProof.Rows L2
theorem inV_int {x : Int} : ∀ {xs : List Int}, inV (.int x) (xs.map V.int) = decide (x ∈ xs)
  | [] => rfl
  | y :: xs => by
    have ih := inV_int (x := x) (xs := xs)
    unfold inV at ih ⊢
    rw [List.map_cons, List.any_cons, ih]
    by_cases h : x = y
    · subst h; simp [eqV]
    · have h' : ¬ y = x := fun z => h z.symm
      simp [eqV, h, h']
theorem ints_flat : ∀ xs : List Int, FlatAll (xs.map PyData.int) (xs.map V.int)
  | [] => .nil
  | x :: xs => .cons (.int x) (ints_flat xs)
theorem ints_flatV : ∀ xs : List Int, (xs.map V.int).all flatV = true
  | [] => rfl
  | _ :: xs => ints_flatV xs
theorem rj_inI {W : Wd} {S : Sto} {x : Int} (xs : List Int) : RJ W (rIn W.K false) (.d (.int x)) (.d (.tuple (xs.map PyData.int))) S (.d (.bool (decide (x ∈ xs)))) S := by
  have := rj_inT (W := W) (S := S) (neg := false) (.int x) (ints_flat xs) rfl (ints_flatV xs)
  rw [inV_int] at this
  exact this
/-! ### the best number -/
def Goes (e : Nat) (lot : List Int) (n : Nat) (s : St) (x : Int) : Prop := ∀ g ∈ grpF e s x, Wn e lot n g
def Best (e : Nat) (lot : List Int) (s : St) (b : Option Int) : Prop :=
  (b = none ∧ ∀ n : Nat, ¬ Least e lot (n + 1) s) ∨ ∃ (n i : Nat) (x : Int), Least e lot (n + 1) s ∧ lot[i]? = some x ∧ b = some x ∧ Goes e lot n s x ∧ ∀ (j : Nat) (y : Int), j < i → lot[j]? = some y → ¬ Goes e lot n s y
theorem best_ex (e : Nat) (lot : List Int) (s : St) : ∃ b, Best e lot s b := by
  by_cases h : ∃ n, Least e lot (n + 1) s
  · obtain ⟨n, hn⟩ := h
    rcases hn.1 with z | ⟨x, hx, hg⟩
    · exact absurd z (hn.2 0 (Nat.succ_pos n))
    · obtain ⟨i, hi, ei⟩ := List.getElem_of_mem hx
      obtain ⟨k, k1, ⟨y, k2, k3⟩, k4⟩ := st_least (p := fun i => ∃ x, lot[i]? = some x ∧ Goes e lot n s x) i ⟨x, by rw [List.getElem?_eq_getElem hi, ei], hg⟩
      exact ⟨some y, .inr ⟨n, k, y, hn, k2, rfl, k3, fun j z hj hz hgo => k4 j hj ⟨z, hz, hgo⟩⟩⟩
  · exact ⟨none, .inl ⟨rfl, fun n hn => h ⟨n, hn⟩⟩⟩
/-! ### the state behind a row is one -/
theorem end_pl {e : Nat} {m : TP} {row : List Int} (he : e ≤ 2) (hm : Mach m) (hn : ∀ x ∈ row, Num 2 e x) : OPl e m (endF e m row) := by
  have := at_pl he hm row (some (bgF m)) row.length (fun q h => by cases h; exact bg_pl he hm) hn
  unfold atF at this
  rwa [List.take_length] at this
theorem bg_told {e : Nat} {m : TP} (he : e ≤ 2) (hm : Mach m) : seF e m (some (bgF m)) = some 0 := by
  have key : ([0, 1, 2].all fun e => waysL.all fun a => modesL.all fun b => decide (ttF 2 e (a, b) (bgF (a, b)) = some 0)) = true := by decide +kernel
  have he' : e ∈ [0, 1, 2] := by
    have : e = 0 ∨ e = 1 ∨ e = 2 := by omega
    simp [this]
  exact of_decide_eq_true (List.all_eq_true.mp (List.all_eq_true.mp (List.all_eq_true.mp key e he') m.1 hm.way) m.2 hm.mode)
theorem tol_last {e : Nat} {m : TP} {x : Int} {row : List Int} : (tolF e m (x :: row)).getLast? = some (seF e m (endF e m (x :: row))) := by
  obtain ⟨ks, h⟩ := run_end (e := e) (m := m) (x :: row) (some (bgF m))
  unfold tolF endF
  rw [List.getLast?_map]
  have h2 : (some (bgF m) :: runF e m (some (bgF m)) (x :: row)).getLast? = (runF e m (some (bgF m)) (x :: row)).getLast? := by
    show (some (bgF m) :: nxF e m (some (bgF m)) x :: _).getLast? = (nxF e m (some (bgF m)) x :: _).getLast?
    rw [List.getLast?_cons_cons]
  rw [← h2, h, List.getLast?_concat]
  rfl
theorem ltP_nd {ms : List TP} (h : ms.Pairwise ltP) : ms.Nodup := List.Pairwise.imp (fun {a b} h e => by subst e; exact ltP_irr _ h) h
theorem MsOk.mss {ms : List TP} (h : MsOk ms) : Mss ms := ⟨h.len, h.mach, ltP_nd h.ord⟩
theorem beh_ok {e : Nat} {ms : List TP} {row : List Int} {hid : TP} (he : e ≤ 2) (hM : MsOk ms) (hn : ∀ x ∈ row, Num 2 e x) (hh : hid ∈ ms) : StOk e ms (behF e ms row (tolF e hid row)) := by
  have mem : ∀ o ∈ behF e ms row (tolF e hid row), ∃ m ∈ ms, o = (m, endF e m row) ∧ tolF e m row = tolF e hid row := fun o ho => by
    obtain ⟨m, h1, rfl⟩ := List.mem_map.mp ho
    obtain ⟨h2, h3⟩ := List.mem_filter.mp h1
    exact ⟨m, h2, rfl, of_decide_eq_true h3⟩
  refine ⟨fun z => ?_, ?_, fun o ho => ?_, ?_⟩
  · have : (hid, endF e hid row) ∈ behF e ms row (tolF e hid row) := List.mem_map.mpr ⟨hid, List.mem_filter.mpr ⟨hh, decide_eq_true rfl⟩, rfl⟩
    rw [z] at this
    cases this
  · unfold behF
    rw [List.map_map]
    have : ((ms.filter fun m => decide (tolF e m row = tolF e hid row)).map ((·.1) ∘ fun m => (m, endF e m row))) = ms.filter fun m => decide (tolF e m row = tolF e hid row) := List.map_id _
    rw [this]
    exact List.filter_sublist
  · obtain ⟨m, h1, rfl, _⟩ := mem o ho
    exact end_pl he (hM.mach m h1) hn
  · cases row with
    | nil => exact ⟨some 0, fun o ho => by
        obtain ⟨m, h1, rfl, _⟩ := mem o ho
        exact bg_told he (hM.mach m h1)⟩
    | cons x row => exact ⟨seF e hid (endF e hid (x :: row)), fun o ho => by
        obtain ⟨m, h1, rfl, h2⟩ := mem o ho
        have h3 := tol_last (e := e) (m := m) (x := x) (row := row)
        rw [h2, tol_last] at h3
        exact (Option.some.inj h3).symm⟩
end J

-- JDG
set_option Elab.async false
set_option linter.all false
set_option maxRecDepth 100000
set_option maxHeartbeats 4000000
namespace J
open PySem PySem.Spec PyProof.Rows L2
/-- ranked, and below the state -/
def below (rk : List (St × Nat)) (n : Nat) (g : St) : Bool := rk.any fun p => decide (p.1 = g) && decide (p.2 ≤ n)
theorem below_iff {rk : List (St × Nat)} {n : Nat} {g : St} : below rk n g = true ↔ ∃ k, (g, k) ∈ rk ∧ k ≤ n := by
  unfold below
  rw [List.any_eq_true]
  constructor
  · rintro ⟨⟨p, k⟩, h1, h2⟩
    rw [Bool.and_eq_true] at h2
    have := of_decide_eq_true h2.1
    simp only at this
    subst this
    exact ⟨k, h1, of_decide_eq_true h2.2⟩
  · rintro ⟨k, h1, h2⟩
    exact ⟨(g, k), h1, by rw [Bool.and_eq_true]; exact ⟨decide_eq_true rfl, decide_eq_true h2⟩⟩
theorem below_wn {e : Nat} {lot : List Int} {rk : List (St × Nat)} {n : Nat} {g : St} (h : ∀ n, (g, n) ∈ rk ↔ Least e lot n g) : below rk n g = true ↔ Wn e lot n g := by
  rw [below_iff]
  constructor
  · rintro ⟨k, h1, h2⟩
    exact ((h k).mp h1).1.le h2
  · intro z
    obtain ⟨k, h1, h2⟩ := least_ex z
    exact ⟨k, (h k).mpr h2, h1⟩
section
variable {P : Program} {w : World} {K : PySem.W.Frag} {mg : Str → Option Value} {base : Heap}
def rBest : Rel := fun ds S r S' => ∃ (e : Nat) (ms : List TP) (lot row : List Int) (hid : TP) (b : Option Int), ds = [.d (fD 2 e), .d (msD ms), .d (lotD lot), .d (rowD row), .d (.list ((tolF e hid row).map oI))] ∧ e ≤ 2 ∧ MsOk ms ∧ hid ∈ ms ∧ Lot e lot ∧ row.length ≤ 39 ∧ (∀ x ∈ row, x ∈ lot) ∧ Best e lot (behF e ms row (tolF e hid row)) b ∧ r = .d (oI b) ∧ S' = S
theorem ok_best (T : Tab K mg) : Ok P w base T.best_number 13 rBest := fn_j T.best_number.F sc_best_number (fun _ _ _ _ ⟨_, _, _, _, _, _, e, _⟩ => by rw [e]; rfl) fun cdv A outer s0 H E hr ds S r S' ⟨e, ms, lot, row, hid, b, e1, he, hM, hh, hL, hl, hrow, hb, er, eS⟩ => by
  subst e1 er eS
  have hu := hr.units
  have hn : ∀ x ∈ row, Num 2 e x := fun x hx => hL.num x (hrow x hx)
  have hm := hM.mss
  have hso := beh_ok he hM hn hh
  have hLo : LotOk e lot := ⟨hL.len, hL.num⟩
  have hL4 := hL.len
  generalize hsE : behF e ms row (tolF e hid row) = s at hb hso
  refine js_expr (je_call (ok_need_ms T) (hr.mono (by decide)) (a2 (vr 0) (vr 1)) ⟨e, ms, rfl, he, hM, rfl, rfl⟩) ?_
  refine js_expr (je_call (ok_need_lot T) (hr.mono (by decide)) (a2 (vr 0) (vr 2)) ⟨e, lot, rfl, he, hL, rfl, rfl⟩) ?_
  refine js_no (jt_w (jw_or (jt_notT (je_call (ok_is_row T) (hr.mono (by decide)) (a2 (vr 0) (vr 3)) ⟨e, row, rfl, he, by omega, hn, rfl, rfl⟩)) (fun h => nomatch h) fun _ => jw_or (k := false) (jt_cmp op_gt (je_lenL T.b_len (vr 3) .d) je_int (JRis (k' := false) rj_gt (decide_eq_false (by rw [List.length_map]; omega)))) (fun h => nomatch h) fun _ => jw_or1 (jt_notT
    (je_allT [("number", 5)] T.b_all sc_best_number.nd (blkOk_by (N := n_best_number) (sc := defScope s_best_number) (by decide +kernel)) (ji_list (vr 3)) (by rw [List.length_map, sizeLine_eq]; omega) trivial fun i d hd => ⟨[5], _, by decide, fun s H C cl fp => jg_name (i := 5) sc_best_number.nd rfl, fun s H C cl fp => ?_⟩)))) ?_
  · obtain ⟨z, hz', rfl⟩ := ints_get hd
    exact je_cmp op_in_seq (vr 5) (vr 2) (JRis (rj_inI lot) (decide_eq_true (hrow z hz')))
  refine js_expr (je_call (ok_need_told T) (hr.mono (by decide)) (a1 (vr 4)) ⟨tolF e hid row, rfl, rfl, rfl⟩) ?_
  refine js_set (i := 6) (w := .d (stD s)) sc_best_number.nd rfl (je_call (ok_behind T) (hr.mono (by decide)) (ja_cons (vr 0) (a3 (vr 1) (vr 3) (vr 4))) ⟨e, ms, row, tolF e hid row, rfl, he, hM.len, hM.mach, hl, hn, by rw [hsE], rfl⟩) ?_
  refine js_no (jt_cmp (op_eqU hr.units0) (vr 6) (je_tup (ds := []) ja_nil) (JRis (k' := false) rj_eqU ?_)) ?_
  · cases s with
    | nil => exact absurd rfl hso.ne
    | cons x y => rfl
  refine js_setN (i := 7) sc_best_number.nd rfl (jn_call (ok_ranks T) (hr.mono (by decide)) (a3 (vr 0) (vr 2) (vr 6)) ⟨e, lot, ms, s, rfl, he, hLo, hm, hso, rfl, rfl⟩) fun q hq => ?_
  refine js_open (p := q) sset_same ?_
  rintro kvs ⟨rk, rfl, R⟩
  rw [sset_sset]
  have hS : sset S' q (.dct (rkD rk)) q = some (.dct (rkD rk)) := sset_same
  have hsub : SubS S' (sset S' q (.dct (rkD rk))) := SubS.set hq
  rcases hb with ⟨rfl, hno⟩ | ⟨n, ix, x, hn1, hx, rfl, hgo, hfirst⟩
  · have hv : (findD (rkD rk) (.tup (stL s))).getD (.int 0) = .int 0 := by
      by_cases c : s ∈ rk.map (·.1)
      · obtain ⟨⟨s', n⟩, hp, rfl⟩ := List.mem_map.mp c
        rw [rk_find R.nd hp]
        cases n with
        | zero => rfl
        | succ n => exact absurd ((R.me _).mp hp) (hno n)
      · rw [rk_none c]; rfl
    exact js_ifT (jt_cmp op_eq (JE.is (je_nget hu ⟨rfl, rfl, rfl, rfl⟩ (vr 7) (JE.is (vr 6) (by rw [stL_data])) je_int (.m hS) (stL_d8 s)) (congrArg Wv.d hv)) je_int (JRis rj_eqI (decide_eq_true rfl))) (js_ret je_non ⟨.refl _, hsub⟩)
  · have hin : (s, n + 1) ∈ rk := (R.me _).mpr hn1
    have hfs := rk_find R.nd hin
    have hnf : ¬ Fnd e lot s := hn1.2 0 (Nat.succ_pos n)
    refine js_no (jt_cmp op_eq (JE.is (r' := .d (.int ((n + 1 : Nat) : Int))) (je_nget hu ⟨rfl, rfl, rfl, rfl⟩ (vr 7) (JE.is (vr 6) (by rw [stL_data])) je_int (.m hS) (stL_d8 s)) (by rw [hfs]; rfl)) je_int (JRis (k' := false) rj_eqI (decide_eq_false (by omega)))) ?_
    refine js_for (fun i G S => S = sset S' q (.dct (rkD rk)) ∧ i ≤ ix ∧ ∃ g5 g8, G = [some (.d (fD 2 e)), some (.d (msD ms)), some (.d (lotD lot)), some (.d (rowD row)), some (.d (.list ((tolF e hid row).map oI))), g5, some (.d (stD s)), some (.o q), g8, none]) PassesOwn.never rfl
      (ji_list (ds := lot.map (anD e s)) (je_call (ok_answers T) (hr.mono (by decide)) (a3 (vr 0) (vr 2) (vr 6)) ⟨e, lot, ms, s, rfl, he, hLo, hm, hso, rfl, rfl⟩)) ⟨rfl, Nat.zero_le _, none, none, rfl⟩ (fun _ _ _ _ => trivial) ?_ ?_
    · rintro i d G' S2 hd ⟨rfl, hi, g5, g8, rfl⟩
      rw [List.getElem?_map] at hd
      obtain ⟨y, hy, rfl⟩ := Option.map_eq_some_iff.mp hd
      have hg3 : (grpF e s y).length ≤ 3 := Nat.le_trans grp_len (hso.len hm)
      have hgr := R.grp hnf y (List.mem_of_getElem? hy)
      refine ⟨[5, 8], _, jg_tup (ds := [.int y, grD (grpF e s y)]) rfl (jgs_cons (jg_name (i := 5) sc_best_number.nd rfl) (jgs_cons (jg_name (i := 8) sc_best_number.nd rfl) jgs_nil)), ?_⟩
      refine js_if (k := (grpF e s y).all (below rk n)) (jt_val (JE.is (je_all (bs := (grpF e s y).map (below rk n)) T.b_all (JE.frz (jn_map [("group", 9)] sc_best_number.nd (blkOk_by (N := n_best_number) (sc := defScope s_best_number) (by decide +kernel)) (ji_list (ds := (grpF e s y).map stD) (vr 8)) (by simp) (by rw [List.length_map, sizeLine_eq]; omega) trivial fun j d2 hd2 => ?_))) (by rw [List.all_map]; rfl))) (fun hk => ?_) fun hk => js_nil (js_nil ⟨rfl, ?_, _, _, rfl⟩)
      · rw [List.getElem?_map] at hd2
        obtain ⟨g, hg, rfl⟩ := Option.map_eq_some_iff.mp hd2
        refine ⟨[9], _, .bool (below rk n g), (by decide), fun s' H' C cl' fp => jg_name (i := 9) sc_best_number.nd rfl, fun s' H' C cl' fp => ?_, ?_⟩
        · refine je_and (k := decide (g ∈ rk.map Prod.fst)) (je_cmp (op_inN hu) (JE.is (vr 9) (by rw [stL_data])) (vr 7) (JRis (k' := decide (g ∈ rk.map Prod.fst)) (rj_inN (neg := false) (ks := stL g) (.m hS) (stL_d8 g)) (rk_isSome g rk))) (fun h => ?_) fun h => ?_
          · cases c : below rk n g with
            | false => rfl
            | true =>
              obtain ⟨k, h1, _⟩ := below_iff.mp c
              exact absurd (List.mem_map.mpr ⟨_, h1, rfl⟩) (of_decide_eq_false h)
          · obtain ⟨⟨g', k⟩, hp, rfl⟩ := List.mem_map.mp (of_decide_eq_true h)
            refine je_one (JE.is (je_cmp op_lt (je_ix (ix_N hu) (vr 7) (JE.is (vr 9) (by rw [stL_data])) (rj_ixN (ks := stL g') (.m hS) (stL_d8 g') (rk_find R.nd hp))) (je_ix (ix_N hu) (vr 7) (JE.is (vr 6) (by rw [stL_data])) (rj_ixN (ks := stL s) (.m hS) (stL_d8 s) hfs)) rj_lt) ?_)
            refine congrArg (fun b => Wv.d (.bool b)) ?_
            show _ = below rk n g'
            by_cases c : k ≤ n
            · rw [decide_eq_true (show (k : Int) < ((n + 1 : Nat) : Int) by omega)]
              exact (below_iff.mpr ⟨k, hp, c⟩).symm
            · rw [decide_eq_false (show ¬ (k : Int) < ((n + 1 : Nat) : Int) by omega)]
              cases c2 : below rk n g' with
              | false => rfl
              | true =>
                obtain ⟨k2, h1, h2⟩ := below_iff.mp c2
                have e1 := rk_find R.nd h1
                rw [rk_find R.nd hp] at e1
                have : (k : Int) = k2 := by injection e1 with e1; injection e1
                omega
        · rw [List.map_map, List.getElem?_map, hg]
          rfl
      · have hgo2 : Goes e lot n s y := fun g hg => (below_wn (hgr g hg)).mp (List.all_eq_true.mp hk g hg)
        have hxi : i = ix := by
          refine Decidable.byContradiction fun c => hfirst i y (by omega) hy hgo2
        subst hxi
        rw [hx] at hy
        cases hy
        exact js_ret (vr 5) ⟨.refl _, hsub⟩
      · refine Decidable.byContradiction fun c => ?_
        have : i = ix := by omega
        subst this
        rw [hx] at hy
        cases hy
        have : (grpF e s x).all (below rk n) = true := List.all_eq_true.mpr fun g hg => (below_wn (hgr g hg)).mpr (hgo g hg)
        rw [this] at hk
        cases hk
    · rintro G' S2 ⟨rfl, hi, g5, g8, rfl⟩
      rw [List.length_map] at hi
      have := (List.getElem?_eq_some_iff.mp hx).1
      omega
end
end J

-- JFX
set_option Elab.async false
set_option linter.all false
set_option maxRecDepth 100000
set_option maxHeartbeats 4000000
/-! The script: a list of ints, tracked or of the frame. -/
namespace J
open PySem PySem.Spec PyProof.Rows L2
abbrev scD (sc : List Int) : PyData := .list (sc.map .int)
/-- a value that is the list, whatever the state -/
def IsX (W : Wd) (x : Wv) (ds : List PyData) : Prop := ∀ B S H v, Good W B S H → Rw W.K B v x → ∃ a vs, v = .ref a ∧ SqL W.K H a vs ∧ DqAll W.K B vs ds
def ScL (K : PySem.W.Frag) (x : Wv) (sc : List Int) : Prop := (x = .d (scD sc) ∨ ∃ a, x = .v (.ref a) ∧ ∃ (o : Obj) (its : Array Value) (n : Nat), K.lookup a = some o ∧ o.cls = .type "list" ∧ o.dict = none ∧ o.data = .seq its n ∧ its.size ≤ sizeLine ∧ Vals (sc.map V.int) its.toList) ∧ sc.length ≤ 63
theorem dq_ints {K : PySem.W.Frag} {B : Hp} : ∀ sc : List Int, DqAll K B (sc.map V.int) (sc.map PyData.int)
  | [] => .nil
  | x :: sc => .cons (.int x) (dq_ints sc)
theorem ScL.isX {W : Wd} {x : Wv} {sc : List Int} (h : ScL W.K x sc) : IsX W x (sc.map .int) := fun B S H v g r => by
  obtain ⟨h | ⟨a, h, k⟩, _⟩ := h
  · subst h
    exact IsL.d.to g r
  · subst h
    exact ⟨a, sc.map V.int, r, .inr k, dq_ints sc⟩
theorem rj_ixX {W : Wd} {S : Sto} {i : Int} {w : Wv} {ds : List PyData} {d : PyData} (h : IsX W w ds) (e : atI ds i = some d) : RJ W (rIxL W.K) w (.d (.int i)) S (.d d) S := fun B H vx vy g r1 r2 Q q => by
  obtain ⟨a, vs, rfl, h1, h2⟩ := h B S H vx g r1
  obtain ⟨v, h3, h4⟩ := dpAll_at h2 e
  cases r2
  exact ⟨a, vs, i, v, rfl, rfl, h1, h3, q _ _ (.same g h4)⟩
theorem rj_eqX {W : Wd} {S : Sto} {x : Wv} {ds : List PyData} {neg : Bool} (h1 : IsX W x ds) : RJ W (rEqE W.K neg) x (.d (.list [])) S (.d (.bool (if neg = true then !ds.isEmpty else ds.isEmpty))) S := fun B H vx vy g r1 r2 Q q => by
  obtain ⟨p1, v1, rfl, k1, e1⟩ := h1 B S H vx g r1
  obtain ⟨p2, v2, rfl, k2, e2⟩ := IsL.d.to g r2
  cases e2
  refine ⟨_, _, _, rfl, rfl, k1, k2, ?_⟩
  rw [dpAll_nil e1]
  exact q _ _ (.same g (.bl _))
theorem cj_lenX {W : Wd} {S : Sto} {x : Wv} {ds : List PyData} (h : IsX W x ds) : CJ W (fun xs H Q => ∃ x n, xs = [x] ∧ LenV W.K x H n ∧ Q (.int n) H) [x] S (.d (.int ds.length)) S := fun B H vs g r Q q => by
  cases r with
  | cons r1 rr =>
    cases rr
    obtain ⟨a, us, rfl, k1, k2⟩ := h B S H _ g r1
    exact ⟨_, ds.length, rfl, .inl ⟨us, k1, (dpAll_len k2).symm⟩, q _ _ (.same g (.int _))⟩
section
variable {X : Cx} {G : Gm} {S S1 : Sto} {a : Expr} {pos p : Pos}
theorem je_lenX {x : Wv} {ds : List PyData} (hm : X.mg "len" = none) (ha : JE X a G S x S1) (hx : IsX (wd X) x ds) (hg : Gl X "len" := by rfl) (he : starEach [a] X.env = (false, eval a X.env) :: starEach [] X.env := by rfl) (hpl : (backTo pos (starEach [] X.env)).any (·.1) = false := by rfl) :
    JE X (.Call (.Name "len" p) [a] [] pos) G S (.d (.int ds.length)) S1 := je_cb (pe_callB call_len hg hm PySem.boot_len pa_w (by decide) (by decide) he hpl) (a1 ha he) (cj_lenX hx)
end
end J

-- JF1
set_option Elab.async false
set_option linter.all false
set_option maxRecDepth 100000
set_option maxHeartbeats 4000000
/-! The law's own defs: draws. -/
namespace J
open PySem PySem.Spec PyProof.Rows L2
abbrev Tn := Nat × Int
abbrev tnD (t : Tn) : List PyData := [.int (t.1 : Int), .int t.2]
def mixF (sc : List Int) (a : Nat) : Int := (sc.getD (a % sc.length) 0 * 1103515245 + 7919 * (a : Int) + 12345) % 2147483647
def drF (sc : List Int) (t : Tn) (many : Int) : Int × Tn :=
  if 0 < t.2 then (t.2 % many, (t.1, t.2 / many))
  else if sc = [] then ((t.1 : Int) % many, (t.1 + 1, t.2))
  else if t.1 < sc.length ∧ 10 ^ 18 ≤ sc.getD t.1 0 then (sc.getD t.1 0 % many, (t.1 + 1, sc.getD t.1 0 / many % (10 ^ 60 * 10 ^ 60)))
  else (mixF sc t.1 ^ 5 % 2147483647 % 999983 % many, (t.1 + 1, t.2))
theorem dr_bd {sc : List Int} {t : Tn} {many : Int} (h : 0 < many) : 0 ≤ (drF sc t many).1 ∧ (drF sc t many).1 < many := by
  unfold drF
  split
  · exact ⟨Int.emod_nonneg _ (by omega), Int.emod_lt_of_pos _ h⟩
  · split
    · exact ⟨Int.emod_nonneg _ (by omega), Int.emod_lt_of_pos _ h⟩
    · split <;> exact ⟨Int.emod_nonneg _ (by omega), Int.emod_lt_of_pos _ h⟩
theorem atI_i {α : Type} {xs : List α} {i : Int} {j : Nat} {x : α} (h : i = (j : Int)) (hx : xs[j]? = some x) : atI xs i = some x := by
  subst h
  exact atI_nat hx
section
variable {P : Program} {w : World} {K : PySem.W.Frag} {mg : Str → Option Value} {base : Heap}
def rDraw (K : PySem.W.Frag) : Rel := fun ds S r S' => ∃ (xs : Wv) (sc : List Int) (p : Addr) (t : Tn) (many : Int), ds = [xs, .o p, .d (.int many)] ∧ S p = some (.lst (tnD t)) ∧ 0 < many ∧ many < 1073741824 ∧ ScL K xs sc ∧ r = .d (.int (drF sc t many).1) ∧ S' = sset S p (.lst (tnD (drF sc t many).2))
theorem ok_draw (T : Tab K mg) : Ok P w base T.law_draw 1 (rDraw K) := fn_j T.law_draw.F sc_law_draw (fun _ _ _ _ ⟨_, _, _, _, _, e, _⟩ => by rw [e]; rfl) fun cdv A outer s H E hr ds S r S' ⟨xs, sc, p, t, many, e1, hS, hm0, hm1, hsc, er, eS⟩ => by
  subst e1 er eS
  obtain ⟨a, b⟩ := t
  have hu := hr.units0
  have hS0 : S p = some (.lst [.int (a : Int), .int b]) := hS
  refine js_if (k := decide (0 < b)) (jt_cmp op_gt (je_ix ix_list (vr 1) je_int (rj_ixL (d := .int b) (.o hS0) rfl)) je_int (JRis rj_gt rfl)) (fun hk => ?_) fun hk => js_nil ?_
  · have hb : 0 < b := of_decide_eq_true hk
    have e : drF sc (a, b) many = (b % many, (a, b / many)) := if_pos hb
    rw [e]
    refine js_set (i := 3) (w := .d (.int (b % many))) sc_law_draw.nd rfl (je_op op_mod (je_ix ix_list (vr 1) je_int (rj_ixL (d := .int b) (.o hS0) rfl)) (vr 2) (rj_mod hm0)) ?_
    refine js_at (k := 1) (d := .int (b / many)) (je_op op_fdiv (je_ix ix_list (vr 1) je_int (rj_ixL (d := .int b) (.o hS0) rfl)) (vr 2) (rj_div ⟨hm0, hm1⟩)) (vr 1) je_int hS0 (show (1 : Nat) < 2 by decide) ?_
    exact js_ret (vr 3) ⟨.refl _, .refl _⟩
  · have hb : ¬ 0 < b := of_decide_eq_false hk
    refine js_set (i := 4) (w := .d (.int (a : Int))) sc_law_draw.nd rfl (je_ix ix_list (vr 1) je_int (rj_ixL (d := .int (a : Int)) (.o hS0) rfl)) ?_
    refine js_augAt (k := 0) (x := (a : Int)) (y := 1) (vr 1) je_int je_int hS0 rfl ?_
    have hS1 : sset S p (.lst ([.int (a : Int), .int b].set 0 (.int ((a : Int) + 1)))) = sset S p (.lst (tnD (a + 1, b))) := rfl
    rw [hS1]
    have hS2 : sset S p (.lst (tnD (a + 1, b))) p = some (.lst (tnD (a + 1, b))) := sset_same
    refine js_if (k := sc.isEmpty) (jt_cmp (op_eqE hu) (vr 0) (JE.frz (jn_lst (ds := []) ja_nil)) (JRis (rj_eqX (ScL.isX hsc)) ?_)) (fun hk2 => ?_) fun hk2 => js_nil ?_
    · cases sc <;> rfl
    · have hsc0 : sc = [] := List.isEmpty_iff.mp hk2
      have e : drF sc (a, b) many = ((a : Int) % many, (a + 1, b)) := by
        unfold drF
        rw [if_neg hb, if_pos hsc0]
      rw [e]
      exact js_ret (je_op op_mod (vr 4) (vr 2) (rj_mod hm0)) ⟨.refl _, .refl _⟩
    · have hsc0 : sc ≠ [] := fun z => by rw [z] at hk2; cases hk2
      have hpos : 0 < sc.length := List.length_pos_iff.mpr hsc0
      have hix : a % sc.length < sc.length := Nat.mod_lt _ hpos
      have hget : ∀ j, j < sc.length → (sc.map PyData.int)[j]? = some (.int (sc.getD j 0)) := fun j hj => by
        rw [List.getElem?_map, List.getElem?_eq_getElem hj, List.getD_eq_getElem?_getD, List.getElem?_eq_getElem hj]
        rfl
      refine js_if (k := decide (a < sc.length ∧ 10 ^ 18 ≤ sc.getD a 0)) (jt_w (jw_and (k := decide (a < sc.length)) (jt_cmp op_lt (vr 4) (je_lenX T.b_len (vr 0) (ScL.isX hsc)) (JRis rj_lt ?_)) (fun h => ?_) fun h => jw_and1 (jt_cmp op_ge (je_ix ix_list (vr 0) (vr 4) (rj_ixX (d := .int (sc.getD a 0)) (ScL.isX hsc) (atI_nat (hget a (of_decide_eq_true h))))) (je_op op_pow je_int je_int (rj_I (d := .int (10 ^ 18)) (fun _ => .int _) ⟨by decide, by decide, by decide⟩)) (JRis rj_ge ?_)))) (fun hk3 => ?_) fun hk3 => js_nil ?_
      · rw [List.length_map]
        by_cases c : a < sc.length
        · rw [decide_eq_true c, decide_eq_true (by omega)]
        · rw [decide_eq_false c, decide_eq_false (by omega)]
      · exact decide_eq_false (fun z => of_decide_eq_false h z.1)
      · have := of_decide_eq_true h
        by_cases c : 10 ^ 18 ≤ sc.getD a 0
        · rw [decide_eq_true c, decide_eq_true ⟨this, c⟩]
        · rw [decide_eq_false c, decide_eq_false (fun z => c z.2)]
      · have hc := of_decide_eq_true hk3
        have e : drF sc (a, b) many = (sc.getD a 0 % many, (a + 1, sc.getD a 0 / many % (10 ^ 60 * 10 ^ 60))) := by
          unfold drF
          rw [if_neg hb, if_neg hsc0, if_pos hc]
        rw [e]
        refine js_at (k := 1) (d := .int (sc.getD a 0 / many % (10 ^ 60 * 10 ^ 60))) (je_op op_mod (je_op op_fdiv (je_ix ix_list (vr 0) (vr 4) (rj_ixX (d := .int (sc.getD a 0)) (ScL.isX hsc) (atI_nat (hget a hc.1)))) (vr 2) (rj_div ⟨hm0, hm1⟩)) (je_op op_mulW (je_op op_pow je_int je_int (rj_I (d := .int (10 ^ 60)) (fun _ => .int _) ⟨by decide, by decide, by decide⟩)) (je_op op_pow je_int je_int (rj_I (d := .int (10 ^ 60)) (fun _ => .int _) ⟨by decide, by decide, by decide⟩)) (rj_mul (wide_mul (a := 200) (b := 200) (by decide) (by decide) (by decide) (by decide) (by decide)))) (rj_mod (by decide))) (vr 1) je_int hS2 (show (1 : Nat) < 2 by decide) ?_
        rw [sset_sset]
        exact js_ret (je_op op_mod (je_ix ix_list (vr 0) (vr 4) (rj_ixX (d := .int (sc.getD a 0)) (ScL.isX hsc) (atI_nat (hget a hc.1)))) (vr 2) (rj_mod hm0)) ⟨.refl _, .refl _⟩
      · have e : drF sc (a, b) many = (mixF sc a ^ 5 % 2147483647 % 999983 % many, (a + 1, b)) := by
          unfold drF
          rw [if_neg hb, if_neg hsc0, if_neg (of_decide_eq_false hk3)]
        rw [e]
        have hmx : 0 ≤ mixF sc a ∧ mixF sc a < 2147483647 := ⟨Int.emod_nonneg _ (by decide), Int.emod_lt_of_pos _ (by decide)⟩
        refine js_set (i := 5) (w := .d (.int (mixF sc a))) sc_law_draw.nd rfl (je_op op_mod (je_op op_add (je_op op_add (je_op op_mul (je_ix ix_list (vr 0) (je_op op_mod (vr 4) (je_lenX T.b_len (vr 0) (ScL.isX hsc)) (rj_mod (by rw [List.length_map]; omega))) (rj_ixX (d := .int (sc.getD (a % sc.length) 0)) (ScL.isX hsc) (atI_i (j := a % sc.length) (by rw [List.length_map, Int.natCast_emod]) (hget _ hix)))) je_int (rj_mul (.inr (by decide)))) (je_op op_mul je_int (vr 4) (rj_mul (.inl (by decide)))) rj_add) je_int rj_add) je_int (rj_mod (by decide))) ?_
        exact js_ret (JE.is (je_op op_mod (je_op op_mod (je_op op_mod (je_op op_pow (vr 5) je_int (rj_I (d := .int (mixF sc a ^ 5)) (fun _ => .int _) ⟨by decide, by decide, by omega⟩)) je_int (rj_mod (by decide))) je_int (rj_mod (by decide))) (vr 2) (rj_mod hm0)) rfl) ⟨.refl _, .refl _⟩
end
end J

-- JF2
set_option Elab.async false
set_option linter.all false
set_option maxRecDepth 100000
set_option maxHeartbeats 4000000
/-! The law's own defs: numbers. -/
namespace J
open PySem PySem.Spec PyProof.Rows L2
def brL : List Nat := [0, 1, 2, 3, 4, 6, 8, 12, 16]
def brN (n : Nat) : Bool := decide (n ∈ brL)
theorem br_half : ((List.range 17).all fun n => !decide (0 < n ∧ n % 2 = 0) || (brN (n / 2) == brN n)) = true := by decide +kernel
theorem br_end : ((List.range 17).all fun n => decide (0 < n ∧ n % 2 = 0) || (decide (n < 4) == brN n)) = true := by decide +kernel
abbrev brB (v : Int) : Bool := brN v.natAbs
def lwF (v : Int) : Int := if brB v = true then v else if brB (v - 1) = true then v - 1 else if brB (v - 2) = true then v - 2 else v - 3
def hwF (v : Int) : Int := if brB v = true then v else if brB (v + 1) = true then v + 1 else if brB (v + 2) = true then v + 2 else v + 3
theorem lw_all : ((span 12).all fun v => brB v || (decide (-12 ≤ v - 1) && decide (lwF (v - 1) = lwF v) && decide ((v - 1) - lwF (v - 1) < v - lwF v))) = true := by decide +kernel
theorem hw_all : ((span 12).all fun v => brB v || (decide (v + 1 ≤ 12) && decide (hwF (v + 1) = hwF v) && decide (hwF (v + 1) - (v + 1) < hwF v - v))) = true := by decide +kernel
theorem lw_num : ([0, 1, 2].all fun e => (span 12).all fun v => !decide (-gr 2 e ≤ v ∧ v ≤ gr 2 e) || decide (Num 2 e (lwF v))) = true := by decide +kernel
theorem lw_nn : ((span 12).all fun v => decide (lwF v ≤ v) && decide (v ≤ hwF v)) = true := by decide +kernel
section
variable {P : Program} {w : World} {K : PySem.W.Frag} {mg : Str → Option Value} {base : Heap}
/-! ### broad -/
def rBroad : Rel := fun ds S r S' => ∃ v : Int, ds = [.d (.int 2), .d (.int v)] ∧ v.natAbs ≤ 16 ∧ r = .d (.bool (brB v)) ∧ S' = S
theorem ok_broad (T : Tab K mg) : Ok P w base T.law_broad 1 rBroad := fn_j T.law_broad.F sc_law_broad (fun _ _ _ _ ⟨_, e, _⟩ => by rw [e]; rfl) fun cdv A outer s H E hr ds S r S' ⟨v, e1, hv, er, eS⟩ => by
  subst e1 er eS
  have hab : ab v = (v.natAbs : Int) := by unfold ab; split <;> omega
  refine js_pr 2 3 sc_law_broad.nd (jax_cons (JE.is (r' := .d (.int (v.natAbs : Int))) (je_abs T.b_abs (vr 1)) (by rw [hab])) (jax_cons je_int (jax_nil ⟨_, _, rfl, ?_⟩)))
  refine js_for (fun i G S => S = S' ∧ ∃ t, G = [some (.d (.int 2)), some (.d (.int v)), some (.d (.int (v.natAbs : Int))), some (.d (.int (2 ^ i))), t]) PassesOwn.never rfl (ji_range1 (pi_range1 rfl T.b_range pa_w) (ja_cons (vr 0) ja_nil) (by omega) (by omega)) ⟨rfl, none, rfl⟩ (fun _ _ _ _ => trivial) (fun i d G' S2 hd hP => ?_) (fun G' S2 hP => ?_)
  · obtain ⟨rfl, t, rfl⟩ := hP
    refine ⟨[4], _, jg_name (i := 4) sc_law_broad.nd rfl, ?_⟩
    refine js_set (i := 3) sc_law_broad.nd rfl (je_op op_mul (vr 3) je_int (rj_mul (.inr (by decide)))) (js_nil ⟨rfl, some (.d d), ?_⟩)
    rw [Int.pow_succ]
    rfl
  · obtain ⟨rfl, t, rfl⟩ := hP
    rw [rangeD_len]
    show JS _ _ [some (.d (.int 2)), some (.d (.int v)), some (.d (.int (v.natAbs : Int))), some (.d (.int 4)), t] _ _
    refine js_while (m0 := v.natAbs) (Pv := fun mm G S => S = S2 ∧ ∃ n : Nat, n ≤ 16 ∧ brN n = brB v ∧ n ≤ mm ∧ G = [some (.d (.int 2)), some (.d (.int v)), some (.d (.int (n : Int))), some (.d (.int 4)), t]) PassesOwn.never ⟨rfl, v.natAbs, hv, rfl, Nat.le_refl _, rfl⟩ ?_
    rintro mm G' S3 ⟨rfl, n, hn, hb, hmm, rfl⟩
    have hn17 : n ∈ List.range 17 := List.mem_range.mpr (by omega)
    refine ⟨decide (0 < n ∧ n % 2 = 0), _, jt_w (jw_and (k := decide (0 < n)) (jt_cmp op_gt (vr 2) je_int (JRis rj_gt ?_)) (fun h => decide_eq_false fun z => of_decide_eq_false h z.1) fun h => jw_and1 (jt_cmp op_eq (je_op op_mod (vr 2) je_int (rj_mod (by decide))) je_int (JRis rj_eqI ?_))), fun hk => ?_, fun hk => ?_⟩
    · by_cases c : 0 < n
      · rw [decide_eq_true c, decide_eq_true (by omega)]
      · rw [decide_eq_false c, decide_eq_false (by omega)]
    · have := of_decide_eq_true h
      by_cases c : n % 2 = 0
      · rw [decide_eq_true (show 0 < n ∧ n % 2 = 0 from ⟨this, c⟩), decide_eq_true (by omega)]
      · rw [decide_eq_false (show ¬ (0 < n ∧ n % 2 = 0) from fun z => c z.2), decide_eq_false (by omega)]
    · have h1 := of_decide_eq_true hk
      have h2 := List.all_eq_true.mp br_half n hn17
      rw [hk] at h2
      have h3 : brN (n / 2) = brN n := by simpa using h2
      refine js_set (i := 2) (w := .d (.int ((n / 2 : Nat) : Int))) sc_law_broad.nd rfl (JE.is (je_op op_fdiv (vr 2) je_int (rj_div ⟨by decide, by decide⟩)) ?_) (js_nil ⟨n / 2, by omega, rfl, n / 2, by omega, by rw [h3, hb], Nat.le_refl _, rfl⟩)
      rw [Int.natCast_ediv]
      rfl
    · have h2 := List.all_eq_true.mp br_end n hn17
      rw [hk] at h2
      have h3 : decide (n < 4) = brN n := by simpa using h2
      refine js_ret (JE.is (je_cmp op_lt (vr 2) (vr 3) rj_lt) ?_) ⟨.refl _, .refl _⟩
      rw [← hb, ← h3]
      by_cases c : n < 4
      · rw [decide_eq_true c, decide_eq_true (by omega)]
      · rw [decide_eq_false c, decide_eq_false (by omega)]
/-! ### top -/
def rTop : Rel := fun ds S r S' => ∃ e : Nat, ds = [.d (fD 2 e)] ∧ e ≤ 2 ∧ r = .d (.int (gr 2 e)) ∧ S' = S
theorem ok_top (T : Tab K mg) : Ok P w base T.law_top 1 rTop := fn_j T.law_top.F sc_law_top (fun _ _ _ _ ⟨_, e, _⟩ => by rw [e]; rfl) fun cdv A outer s H E hr ds S r S' ⟨e, e1, he, er, eS⟩ => by
  subst e1 er eS
  refine js_set (i := 1) sc_law_top.nd rfl je_int ?_
  refine js_for (fun i G S => S = S' ∧ ∃ t, G = [some (.d (fD 2 e)), some (.d (.int (1 * 2 ^ i))), t]) PassesOwn.never rfl (ji_range1 (pi_range1 rfl T.b_range pa_w) (ja_cons (ixT (d := .int (2 : Nat)) (vr 0)) ja_nil) (by decide) (by decide)) ⟨rfl, none, rfl⟩ (fun _ _ _ _ => trivial) (fun i d G' S2 hd hP => ?_) (fun G' S2 hP => ?_)
  · obtain ⟨rfl, t, rfl⟩ := hP
    refine ⟨[2], _, jg_name (i := 2) sc_law_top.nd rfl, ?_⟩
    refine js_set (i := 1) sc_law_top.nd rfl (je_op op_mul (vr 1) je_int (rj_mul (.inr (by decide)))) (js_nil ⟨rfl, some (.d d), ?_⟩)
    rw [Int.pow_succ, ← Int.mul_assoc]
    rfl
  · obtain ⟨rfl, t, rfl⟩ := hP
    refine js_set (i := 1) (w := .d (.int (3 * 2 ^ 0))) sc_law_top.nd rfl (JE.is (je_op op_sub (vr 1) je_int rj_sub) rfl) ?_
    refine js_for (fun i G S => S = S2 ∧ ∃ t, G = [some (.d (fD 2 e)), some (.d (.int (3 * 2 ^ i))), t]) PassesOwn.never rfl (ji_range1 (pi_range1 rfl T.b_range pa_w) (ja_cons (ixT (d := .int (e : Int)) (vr 0)) ja_nil) (by omega) (by omega)) ⟨rfl, t, rfl⟩ (fun _ _ _ _ => trivial) (fun i d G' S3 hd hP => ?_) (fun G' S3 hP => ?_)
    · obtain ⟨rfl, t, rfl⟩ := hP
      refine ⟨[2], _, jg_name (i := 2) sc_law_top.nd rfl, ?_⟩
      refine js_set (i := 1) sc_law_top.nd rfl (je_op op_mul (vr 1) je_int (rj_mul (.inr (by decide)))) (js_nil ⟨rfl, some (.d d), ?_⟩)
      rw [Int.pow_succ, ← Int.mul_assoc]
      rfl
    · obtain ⟨rfl, t, rfl⟩ := hP
      rw [rangeD_len, Int.toNat_natCast]
      exact js_ret (JE.is (vr 1) rfl) ⟨.refl _, .refl _⟩
/-! ### sides -/
def rSd : Rel := fun ds S r S' => ∃ v : Int, ds = [.d (.int 2), .d (.int v)] ∧ -12 ≤ v ∧ v ≤ 12 ∧ r = .d (.tuple [.int (lwF v), .int (hwF v)]) ∧ S' = S
theorem ok_sd (T : Tab K mg) : Ok P w base T.law_sides 2 rSd := fn_j T.law_sides.F sc_law_sides (fun _ _ _ _ ⟨_, e, _⟩ => by rw [e]; rfl) fun cdv A outer s H E hr ds S r S' ⟨v, e1, h1, h2, er, eS⟩ => by
  subst e1 er eS
  refine js_pr 2 3 sc_law_sides.nd (jax_cons (vr 1) (jax_cons (vr 1) (jax_nil ⟨_, _, rfl, ?_⟩)))
  refine js_while (m0 := (v - lwF v).toNat) (Pv := fun mm G S => S = S' ∧ ∃ x : Int, -12 ≤ x ∧ x ≤ 12 ∧ lwF x = lwF v ∧ (x - lwF x).toNat ≤ mm ∧ G = [some (.d (.int 2)), some (.d (.int v)), some (.d (.int x)), some (.d (.int v))]) PassesOwn.never ⟨rfl, v, h1, h2, rfl, Nat.le_refl _, rfl⟩ ?_
  rintro mm G' S3 ⟨rfl, x, h3, h4, hx, hmm, rfl⟩
  have hal := List.all_eq_true.mp lw_all x (mem_span (by omega) (by omega))
  have hge := List.all_eq_true.mp lw_nn x (mem_span (by omega) (by omega))
  rw [Bool.and_eq_true] at hge
  have hge1 := of_decide_eq_true hge.1
  refine ⟨!brB x, _, jt_not (jt_val (je_call (ok_broad T) (hr.mono (by decide)) (a2 (vr 0) (vr 2)) ⟨x, rfl, by omega, rfl, rfl⟩)), fun hk => ?_, fun hk => ?_⟩
  · have hb : brB x = false := by simpa using hk
    rw [hb, Bool.false_or, Bool.and_eq_true, Bool.and_eq_true] at hal
    have q1 := of_decide_eq_true hal.1.1
    have q2 := of_decide_eq_true hal.1.2
    have q3 := of_decide_eq_true hal.2
    have hal' := List.all_eq_true.mp lw_nn (x - 1) (mem_span (by omega) (by omega))
    rw [Bool.and_eq_true] at hal'
    have q4 := of_decide_eq_true hal'.1
    exact js_set (i := 2) sc_law_sides.nd rfl (je_op op_sub (vr 2) je_int rj_sub) (js_nil ⟨(x - 1 - lwF (x - 1)).toNat, by omega, rfl, x - 1, q1, by omega, by rw [q2, hx], Nat.le_refl _, rfl⟩)
  · have hb : brB x = true := by simpa using hk
    have hlx : lwF v = x := by rw [← hx]; unfold lwF; rw [if_pos hb]
    refine js_while (m0 := (hwF v - v).toNat) (Pv := fun mm G S => S = S3 ∧ ∃ y : Int, -12 ≤ y ∧ y ≤ 12 ∧ hwF y = hwF v ∧ (hwF y - y).toNat ≤ mm ∧ G = [some (.d (.int 2)), some (.d (.int v)), some (.d (.int x)), some (.d (.int y))]) PassesOwn.never ⟨rfl, v, h1, h2, rfl, Nat.le_refl _, rfl⟩ ?_
    rintro mm G' S4 ⟨rfl, y, h5, h6, hy, hmm, rfl⟩
    have hal := List.all_eq_true.mp hw_all y (mem_span (by omega) (by omega))
    have hge := List.all_eq_true.mp lw_nn y (mem_span (by omega) (by omega))
    rw [Bool.and_eq_true] at hge
    have hge1 := of_decide_eq_true hge.2
    refine ⟨!brB y, _, jt_not (jt_val (je_call (ok_broad T) (hr.mono (by decide)) (a2 (vr 0) (vr 3)) ⟨y, rfl, by omega, rfl, rfl⟩)), fun hk => ?_, fun hk => ?_⟩
    · have hb : brB y = false := by simpa using hk
      rw [hb, Bool.false_or, Bool.and_eq_true, Bool.and_eq_true] at hal
      have q1 := of_decide_eq_true hal.1.1
      have q2 := of_decide_eq_true hal.1.2
      have q3 := of_decide_eq_true hal.2
      have hal' := List.all_eq_true.mp lw_nn (y + 1) (mem_span (by omega) (by omega))
      rw [Bool.and_eq_true] at hal'
      have q4 := of_decide_eq_true hal'.2
      exact js_set (i := 3) sc_law_sides.nd rfl (je_op op_add (vr 3) je_int rj_add) (js_nil ⟨(hwF (y + 1) - (y + 1)).toNat, by omega, rfl, y + 1, by omega, q1, by rw [q2, hy], Nat.le_refl _, rfl⟩)
    · have hb : brB y = true := by simpa using hk
      have hhy : hwF v = y := by rw [← hy]; unfold hwF; rw [if_pos hb]
      exact js_ret (je_tup (ds := [.int (lwF v), .int (hwF v)]) (a2 (JE.is (vr 2) (by rw [hlx])) (JE.is (vr 3) (by rw [hhy])))) ⟨.refl _, .refl _⟩
end
end J

-- JF3
set_option Elab.async false
set_option linter.all false
set_option maxRecDepth 100000
set_option maxHeartbeats 4000000
/-! The law's own defs: picks, machines, lots. -/
namespace J
open PySem PySem.Spec PyProof.Rows L2
def pck {α : Type} (d : α) (sc : List Int) (t : Tn) (l : List α) : α × Tn := (l.getD (drF sc t l.length).1.toNat d, (drF sc t l.length).2)
theorem pck_get {α : Type} {d : α} {sc : List Int} {t : Tn} {l : List α} (h : l ≠ []) : l[(drF sc t l.length).1.toNat]? = some (pck d sc t l).1 := by
  have h0 : 0 < l.length := List.length_pos_iff.mpr h
  obtain ⟨h1, h2⟩ := dr_bd (sc := sc) (t := t) (many := l.length) (by omega)
  have h3 : (drF sc t l.length).1.toNat < l.length := by omega
  show _ = some (l.getD _ d)
  rw [List.getD_eq_getElem?_getD, List.getElem?_eq_getElem h3]
  rfl
theorem pck_mem {α : Type} {d : α} {sc : List Int} {t : Tn} {l : List α} (h : l ≠ []) : (pck d sc t l).1 ∈ l := List.mem_of_getElem? (pck_get h)
def nuF (sc : List Int) (t : Tn) (e : Nat) : Int × Tn := (lwF ((drF sc t (2 * gr 2 e + 1)).1 - gr 2 e), (drF sc t (2 * gr 2 e + 1)).2)
theorem gr_bd {e : Nat} (he : e ≤ 2) : 3 ≤ gr 2 e ∧ gr 2 e ≤ 12 := by
  have : e = 0 ∨ e = 1 ∨ e = 2 := by omega
  rcases this with rfl | rfl | rfl <;> decide
theorem nu_num {sc : List Int} {t : Tn} {e : Nat} (he : e ≤ 2) : Num 2 e (nuF sc t e).1 := by
  have hg := gr_bd he
  obtain ⟨h1, h2⟩ := dr_bd (sc := sc) (t := t) (many := 2 * gr 2 e + 1) (by omega)
  have he' : e ∈ [0, 1, 2] := by
    have : e = 0 ∨ e = 1 ∨ e = 2 := by omega
    simp [this]
  have k := List.all_eq_true.mp (List.all_eq_true.mp lw_num e he') ((drF sc t (2 * gr 2 e + 1)).1 - gr 2 e) (mem_span (by omega) (by omega))
  rw [decide_eq_true (show -gr 2 e ≤ (drF sc t (2 * gr 2 e + 1)).1 - gr 2 e ∧ (drF sc t (2 * gr 2 e + 1)).1 - gr 2 e ≤ gr 2 e from ⟨by omega, by omega⟩)] at k
  have k2 : Num 2 e (lwF ((drF sc t (2 * gr 2 e + 1)).1 - gr 2 e)) := by simpa using k
  exact k2
abbrev moL : List Str := ["away", "down", "even", "even", "up", "zero"]
abbrev waL : List Str := ["beside", "kept", "kept", "plain", "signs", "wide1", "wide2"]
def moF (sc : List Int) (t : Tn) : Str × Tn := pck ("" : Str) sc t moL
def maF (sc : List Int) (t : Tn) : TP × Tn := (((pck ("" : Str) sc t waL).1, (moF sc (pck ("" : Str) sc t waL).2).1), (moF sc (pck ("" : Str) sc t waL).2).2)
theorem ma_mach {sc : List Int} {t : Tn} : Mach (maF sc t).1 := by
  constructor
  · have h : (pck ("" : Str) sc t waL).1 ∈ waL := pck_mem (by simp)
    have key : (waL.all fun x => decide (x ∈ waysL)) = true := by decide +kernel
    exact of_decide_eq_true (List.all_eq_true.mp key _ h)
  · have h : (moF sc (pck ("" : Str) sc t waL).2).1 ∈ moL := pck_mem (by simp)
    have key : (moL.all fun x => decide (x ∈ modesL)) = true := by decide +kernel
    exact of_decide_eq_true (List.all_eq_true.mp key _ h)
def maN (sc : List Int) (t : Tn) : Nat → List TP × Tn
  | 0 => ([], t)
  | i + 1 => ((maN sc t i).1 ++ [(maF sc (maN sc t i).2).1], (maF sc (maN sc t i).2).2)
def nuN (sc : List Int) (e : Nat) (t : Tn) : Nat → List Int × Tn
  | 0 => ([], t)
  | i + 1 => ((nuN sc e t i).1 ++ [(nuF sc (nuN sc e t i).2 e).1], (nuF sc (nuN sc e t i).2 e).2)
theorem maN_len {sc : List Int} {t : Tn} : ∀ i, (maN sc t i).1.length = i
  | 0 => rfl
  | i + 1 => by
    show ((maN sc t i).1 ++ [_]).length = _
    rw [List.length_append, maN_len i]; rfl
theorem nuN_len {sc : List Int} {e : Nat} {t : Tn} : ∀ i, (nuN sc e t i).1.length = i
  | 0 => rfl
  | i + 1 => by
    show ((nuN sc e t i).1 ++ [_]).length = _
    rw [List.length_append, nuN_len i]; rfl
theorem maN_mach {sc : List Int} {t : Tn} : ∀ i, ∀ m ∈ (maN sc t i).1, Mach m
  | 0, m, h => by cases h
  | i + 1, m, h => by
    rcases List.mem_append.mp (show m ∈ (maN sc t i).1 ++ [_] from h) with z | z
    · exact maN_mach i m z
    · rw [List.mem_singleton.mp z]; exact ma_mach
theorem nuN_num {sc : List Int} {e : Nat} {t : Tn} (he : e ≤ 2) : ∀ i, ∀ m ∈ (nuN sc e t i).1, Num 2 e m
  | 0, m, h => by cases h
  | i + 1, m, h => by
    rcases List.mem_append.mp (show m ∈ (nuN sc e t i).1 ++ [_] from h) with z | z
    · exact nuN_num he i m z
    · rw [List.mem_singleton.mp z]; exact nu_num he
section
variable {X : Cx} {G : Gm} {S S1 S2 S3 : Sto} {a b c e : Expr} {pos : Pos}
/-- and, the first part moving the store -/
theorem jw_andS {rest : List Expr} {k k' : Bool} (ha : JT X a G S k S1) (h0 : k = false → k' = false ∧ S2 = S1) (h1 : k = true → JTw X (.BoolOp .And (b :: rest) pos) G S1 k' S2) : JTw X (.BoolOp .And (a :: b :: rest) pos) G S k' S2 := fun B σ H g sl =>
  wTw_of (pw_and pt_w pw_w) (wT_mono (ha B σ H g sl) fun v H1 ⟨e, B1, w1, g1⟩ => by
    subst e
    cases v with
    | true => exact iteT (wTw_mono (h1 rfl B1 σ H1 g1 (sl.mono w1.b)) fun _ _ q => TQ.comp w1 g1 q)
    | false =>
      obtain ⟨e1, e2⟩ := h0 rfl
      subst e1 e2
      exact iteF ⟨rfl, B1, w1, g1⟩)
end
section
variable {P : Program} {w : World} {K : PySem.W.Frag} {mg : Str → Option Value} {base : Heap}
/-! ### pick -/
def rPick (K : PySem.W.Frag) : Rel := fun ds S r S' => ∃ (xs : Wv) (sc : List Int) (p : Addr) (t : Tn) (x : Wv) (l : List PyData) (d : PyData), ds = [xs, .o p, x] ∧ S p = some (.lst (tnD t)) ∧ ScL K xs sc ∧ (x = .d (.list l) ∨ x = .d (.tuple l)) ∧ l ≠ [] ∧ l.length ≤ 100 ∧ l[(drF sc t l.length).1.toNat]? = some d ∧ r = .d d ∧ S' = sset S p (.lst (tnD (drF sc t l.length).2))
theorem ok_pick (T : Tab K mg) : Ok P w base T.law_pick 2 (rPick K) := fn_j T.law_pick.F sc_law_pick (fun _ _ _ _ ⟨_, _, _, _, _, _, _, e, _⟩ => by rw [e]; rfl) fun cdv A outer s H E hr ds S r S' ⟨xs, sc, p, t, x, l, d, e1, hS, hsc, hx, hl0, hl, hd, er, eS⟩ => by
  subst e1 er eS
  have h0 : 0 < l.length := List.length_pos_iff.mpr hl0
  obtain ⟨h1, h2⟩ := dr_bd (sc := sc) (t := t) (many := l.length) (by omega)
  have hat : atI l (drF sc t l.length).1 = some d := atI_i (by omega) hd
  have rel : ∀ W : Wd, rDraw K [xs, .o p, .d (.int (l.length : Int))] S (.d (.int (drF sc t l.length).1)) (sset S p (.lst (tnD (drF sc t l.length).2))) := fun _ => ⟨xs, sc, p, t, (l.length : Int), rfl, hS, by omega, by omega, hsc, rfl, rfl⟩
  rcases hx with rfl | rfl
  · exact js_ret (je_ix ix_list (vr 2) (je_call (ok_draw T) (hr.mono (by decide)) (a3 (vr 0) (vr 1) (je_lenL T.b_len (vr 2) .d)) (rel ⟨P, w, K⟩)) (rj_ixL .d hat)) ⟨.refl _, .refl _⟩
  · exact js_ret (je_ix ix_tup (vr 2) (je_call (ok_draw T) (hr.mono (by decide)) (a3 (vr 0) (vr 1) (je_lenT T.b_len (vr 2))) (rel ⟨P, w, K⟩)) (rj_ixT hat)) ⟨.refl _, .refl _⟩
/-- of a list of one kind -/
theorem pick_of {α : Type} {f : α → PyData} {d : α} {xs : Wv} {sc : List Int} {p : Addr} {t : Tn} {x : Wv} {l : List α} {S : Sto} (hS : S p = some (.lst (tnD t))) (hsc : ScL K xs sc) (hx : x = .d (.list (l.map f)) ∨ x = .d (.tuple (l.map f))) (h0 : l ≠ []) (hl : l.length ≤ 100) :
    rPick K [xs, .o p, x] S (.d (f (pck d sc t l).1)) (sset S p (.lst (tnD (pck d sc t l).2))) :=
  ⟨xs, sc, p, t, x, l.map f, f (pck d sc t l).1, rfl, hS, hsc, hx, by simpa using h0, by rw [List.length_map]; exact hl, by rw [List.length_map, List.getElem?_map, pck_get h0]; rfl, rfl, by rw [List.length_map]; rfl⟩
/-! ### number -/
def rNumber (K : PySem.W.Frag) : Rel := fun ds S r S' => ∃ (xs : Wv) (sc : List Int) (p : Addr) (t : Tn) (e : Nat), ds = [xs, .o p, .d (fD 2 e)] ∧ S p = some (.lst (tnD t)) ∧ ScL K xs sc ∧ e ≤ 2 ∧ r = .d (.int (nuF sc t e).1) ∧ S' = sset S p (.lst (tnD (nuF sc t e).2))
theorem ok_number (T : Tab K mg) : Ok P w base T.law_number 3 (rNumber K) := fn_j T.law_number.F sc_law_number (fun _ _ _ _ ⟨_, _, _, _, _, e, _⟩ => by rw [e]; rfl) fun cdv A outer s H E hr ds S r S' ⟨xs, sc, p, t, e, e1, hS, hsc, he, er, eS⟩ => by
  subst e1 er eS
  have hg := gr_bd he
  obtain ⟨h1, h2⟩ := dr_bd (sc := sc) (t := t) (many := 2 * gr 2 e + 1) (by omega)
  refine js_set (i := 3) sc_law_number.nd rfl (je_op op_sub (je_call (ok_draw T) (hr.mono (by decide)) (a3 (vr 0) (vr 1) (je_op op_add (je_op op_mul je_int (je_call (ok_top T) (hr.mono (by decide)) (a1 (vr 2)) ⟨e, rfl, he, rfl, rfl⟩) (rj_mul (.inl (by decide)))) je_int rj_add)) ⟨xs, sc, p, t, _, rfl, hS, by omega, by omega, hsc, rfl, rfl⟩) (je_call (ok_top T) (hr.mono (by decide)) (a1 (vr 2)) ⟨e, rfl, he, rfl, rfl⟩) rj_sub) ?_
  exact js_ret (ixT (d := .int (nuF sc t e).1) (je_call (ok_sd T) (hr.mono (by decide)) (a2 (ixT (d := .int 2) (vr 2)) (vr 3)) ⟨_, rfl, by omega, by omega, rfl, rfl⟩)) ⟨.refl _, .refl _⟩
/-! ### mode, machine -/
def rMode (K : PySem.W.Frag) : Rel := fun ds S r S' => ∃ (xs : Wv) (sc : List Int) (p : Addr) (t : Tn), ds = [xs, .o p] ∧ S p = some (.lst (tnD t)) ∧ ScL K xs sc ∧ r = .d (.str (moF sc t).1) ∧ S' = sset S p (.lst (tnD (moF sc t).2))
theorem ok_mode (T : Tab K mg) : Ok P w base T.law_mode 3 (rMode K) := fn_j T.law_mode.F sc_law_mode (fun _ _ _ _ ⟨_, _, _, _, e, _⟩ => by rw [e]; rfl) fun cdv A outer s H E hr ds S r S' ⟨xs, sc, p, t, e1, hS, hsc, er, eS⟩ => by
  subst e1 er eS
  exact js_ret (je_call (ok_pick T) (hr.mono (by decide)) (a3 (vr 0) (vr 1) (JE.frz (jn_lst (ds := moL.map PyData.str) (ja_cons je_str (ja_cons je_str (ja_cons je_str (a3 je_str je_str je_str))))))) (pick_of (f := PyData.str) (d := ("" : Str)) (l := moL) hS hsc (.inl rfl) (by simp) (by decide))) ⟨.refl _, .refl _⟩
def rMachine (K : PySem.W.Frag) : Rel := fun ds S r S' => ∃ (xs : Wv) (sc : List Int) (p : Addr) (t : Tn), ds = [xs, .o p] ∧ S p = some (.lst (tnD t)) ∧ ScL K xs sc ∧ r = .d (pD (maF sc t).1) ∧ S' = sset S p (.lst (tnD (maF sc t).2))
theorem ok_machine (T : Tab K mg) : Ok P w base T.law_machine 4 (rMachine K) := fn_j T.law_machine.F sc_law_machine (fun _ _ _ _ ⟨_, _, _, _, e, _⟩ => by rw [e]; rfl) fun cdv A outer s H E hr ds S r S' ⟨xs, sc, p, t, e1, hS, hsc, er, eS⟩ => by
  subst e1 er eS
  refine js_set (i := 2) (w := .d (.str (pck ("" : Str) sc t waL).1)) sc_law_machine.nd rfl (je_call (ok_pick T) (hr.mono (by decide)) (a3 (vr 0) (vr 1) (JE.frz (jn_lst (ds := waL.map PyData.str) (ja_cons je_str (ja_cons je_str (ja_cons je_str (ja_cons je_str (a3 je_str je_str je_str)))))))) (pick_of (f := PyData.str) (d := ("" : Str)) (l := waL) hS hsc (.inl rfl) (by simp) (by decide))) ?_
  refine js_ret (je_tup (ds := [.str (pck ("" : Str) sc t waL).1, .str (moF sc (pck ("" : Str) sc t waL).2).1]) (a2 (vr 2) (je_call (ok_mode T) (hr.mono (by decide)) (a2 (vr 0) (vr 1)) ⟨xs, sc, p, _, rfl, sset_same, hsc, rfl, rfl⟩))) ⟨.refl _, ?_⟩
  rw [sset_sset]
  exact .refl _
end
end J

-- JF4
set_option Elab.async false
set_option linter.all false
set_option maxRecDepth 100000
set_option maxHeartbeats 4000000
/-! The law's own defs: some machines, a lot. -/
namespace J
open PySem PySem.Spec PyProof.Rows L2
def soQ (sc : List Int) (t : Tn) : List TP × Tn := maN sc (drF sc t 3).2 (1 + (drF sc t 3).1).toNat
def soK (sc : List Int) (t : Tn) : List TP := if (drF sc (soQ sc t).2 2).1 = 0 then (soQ sc t).1.map fun m => (((soQ sc t).1.headD ("", "")).1, m.2) else (soQ sc t).1
def soT (sc : List Int) (t : Tn) : Tn := (drF sc (soQ sc t).2 2).2
theorem soQ_len {sc : List Int} {t : Tn} : 1 ≤ (soQ sc t).1.length ∧ (soQ sc t).1.length ≤ 3 := by
  obtain ⟨h1, h2⟩ := dr_bd (sc := sc) (t := t) (many := 3) (by decide)
  unfold soQ
  rw [maN_len]
  omega
theorem soK_len {sc : List Int} {t : Tn} : 1 ≤ (soK sc t).length ∧ (soK sc t).length ≤ 3 := by
  have := soQ_len (sc := sc) (t := t)
  unfold soK
  split
  · rw [List.length_map]; exact this
  · exact this
theorem soK_mach {sc : List Int} {t : Tn} : ∀ m ∈ soK sc t, Mach m := fun m h => by
  have key : ∀ m ∈ (soQ sc t).1, Mach m := maN_mach _
  unfold soK at h
  split at h
  · obtain ⟨m', h1, rfl⟩ := List.mem_map.mp h
    refine ⟨?_, (key m' h1).mode⟩
    have h0 : (soQ sc t).1.headD ("", "") ∈ (soQ sc t).1 := by
      cases c : (soQ sc t).1 with
      | nil => rw [c] at h1; cases h1
      | cons x y => exact List.mem_cons_self
    exact (key _ h0).way
  · exact key m h
def ltQ (sc : List Int) (e : Nat) (t : Tn) : List Int × Tn := nuN sc e (drF sc t 3).2 (1 + (drF sc t 3).1).toNat
def ltF (sc : List Int) (t : Tn) (rs : List Int) : List Int × Tn :=
  if 0 < (drF sc t 3).1 ∧ 0 ≤ rs.headD 0 ∧ rs.length < 3 then (-(pck (0 : Int) sc (drF sc t 3).2 [1, 2, 3]).1 :: rs, (pck (0 : Int) sc (drF sc t 3).2 [1, 2, 3]).2) else (rs, (drF sc t 3).2)
theorem ltQ_len {sc : List Int} {e : Nat} {t : Tn} : 1 ≤ (ltQ sc e t).1.length ∧ (ltQ sc e t).1.length ≤ 3 := by
  obtain ⟨h1, h2⟩ := dr_bd (sc := sc) (t := t) (many := 3) (by decide)
  unfold ltQ
  rw [nuN_len]
  omega
theorem lot_of {sc : List Int} {e : Nat} {t t2 : Tn} {rs : List Int} (he : e ≤ 2) (h1 : rs.Pairwise (· < ·)) (h2 : ∀ k, k ∈ rs ↔ k ∈ (ltQ sc e t).1) (h3 : rs.length ≤ 3) : Lot e (ltF sc t2 rs).1 := by
  have hne : rs ≠ [] := fun z => by
    have := ltQ_len (sc := sc) (e := e) (t := t)
    cases c : (ltQ sc e t).1 with
    | nil => rw [c] at this; simp at this
    | cons x y => have := (h2 x).mpr (by rw [c]; exact List.mem_cons_self); rw [z] at this; cases this
  have hnum : ∀ x ∈ rs, Num 2 e x := fun x hx => nuN_num he _ x ((h2 x).mp hx)
  unfold ltF
  split
  · rename_i c
    have hp : (pck (0 : Int) sc (drF sc t2 3).2 [1, 2, 3]).1 ∈ [(1 : Int), 2, 3] := pck_mem (by simp)
    generalize (pck (0 : Int) sc (drF sc t2 3).2 [1, 2, 3]).1 = k at hp ⊢
    have hk : k = 1 ∨ k = 2 ∨ k = 3 := by simpa using hp
    refine ⟨by simp, by show rs.length + 1 ≤ 4; omega, fun x hx => ?_, ?_⟩
    · rcases List.mem_cons.mp hx with rfl | hx
      · have : e = 0 ∨ e = 1 ∨ e = 2 := by omega
        rcases this with rfl | rfl | rfl <;> rcases hk with rfl | rfl | rfl <;> decide
      · exact hnum x hx
    · refine List.pairwise_cons.mpr ⟨fun x hx => ?_, h1⟩
      cases rs with
      | nil => cases hx
      | cons y rs =>
        have hy : 0 ≤ y := c.2.1
        rcases List.mem_cons.mp hx with rfl | hx
        · show -k < x; omega
        · have := (List.pairwise_cons.mp h1).1 x hx
          show -k < x; omega
  · exact ⟨hne, by show rs.length ≤ 4; omega, hnum, h1⟩
section
variable {P : Program} {w : World} {K : PySem.W.Frag} {mg : Str → Option Value} {base : Heap}
/-! ### some -/
def rSome (K : PySem.W.Frag) : Rel := fun ds S r S' => ∃ (xs : Wv) (sc : List Int) (p : Addr) (t : Tn) (rs : List TP), ds = [xs, .o p] ∧ S p = some (.lst (tnD t)) ∧ ScL K xs sc ∧ rs.Pairwise ltP ∧ (∀ k, k ∈ rs ↔ k ∈ soK sc t) ∧ r = .d (msD rs) ∧ S' = sset S p (.lst (tnD (soT sc t)))
theorem ok_some (T : Tab K mg) : Ok P w base T.law_some 5 (rSome K) := fn_j T.law_some.F sc_law_some (fun _ _ _ _ ⟨_, _, _, _, _, e, _⟩ => by rw [e]; rfl) fun cdv A outer s H E hr ds S r S' ⟨xs, sc, p, t, rs, e1, hS, hsc, hr1, hr2, er, eS⟩ => by
  subst e1 er eS
  have hu := hr.units
  obtain ⟨h1, h2⟩ := dr_bd (sc := sc) (t := t) (many := 3) (by decide)
  have hq := soQ_len (sc := sc) (t := t)
  refine js_set (i := 2) (w := .d (.list ((soQ sc t).1.map pD))) (S1 := sset S p (.lst (tnD (soQ sc t).2))) sc_law_some.nd rfl (JE.frz (jn_lc (own := [("_law_k", 3)]) (fun i acc S' => acc = ((maN sc (drF sc t 3).2 i).1).map pD ∧ S' = sset S p (.lst (tnD (maN sc (drF sc t 3).2 i).2))) rfl sc_law_some.nd (blkOk_by (N := n_law_some) (sc := defScope s_law_some) (by decide +kernel)) (by intro i hi; simp at hi; subst hi; rfl)
    (ji_range1 (pi_range1 rfl T.b_range pa_w) (a1 (je_op op_add je_int (je_call (ok_draw T) (hr.mono (by decide)) (a3 (vr 0) (vr 1) je_int) ⟨xs, sc, p, t, 3, rfl, hS, by decide, by decide, hsc, rfl, rfl⟩) rj_add)) (by omega) (by omega)) ⟨Nat.zero_le _, ?_, ?_⟩ (fun _ _ _ _ => trivial) ⟨rfl, rfl⟩ ?_ (by rw [rangeD_len, sizeLine_eq]; omega))) ?_
  · rintro i d acc S' hd ⟨rfl, rfl⟩
    refine ⟨[3], _, by decide, fun s H C cl fp => jg_name (i := 3) sc_law_some.nd rfl, _, _, fun s H C cl fp => je_call (ok_machine T) (hr.mono (by decide)) (a2 (vr 0) (vr 1)) ⟨xs, sc, p, _, rfl, sset_same, hsc, rfl, rfl⟩, ?_, ?_⟩
    · show _ = ((maN sc (drF sc t 3).2 i).1 ++ [_]).map pD
      rw [List.map_append]
      rfl
    · rw [sset_sset]; rfl
  · rintro i acc S' hi ⟨rfl, _⟩
    rw [List.length_map, maN_len]
    exact Nat.le_refl _
  · rintro acc S' ⟨rfl, rfl⟩
    rw [rangeD_len]
    exact ⟨rfl, rfl⟩
  refine js_seq (fun G' S' => S' = sset S p (.lst (tnD (soT sc t))) ∧ G' = [some xs, some (.o p), some (.d (.list ((soK sc t).map pD))), none, none]) (js1_if (k := decide ((drF sc (soQ sc t).2 2).1 = 0)) (jt_cmp op_eq (je_call (ok_draw T) (hr.mono (by decide)) (a3 (vr 0) (vr 1) je_int) ⟨xs, sc, p, _, 2, rfl, sset_same, by decide, by decide, hsc, rfl, rfl⟩) je_int rj_eqI) (fun hk => ?_) fun hk => js_nil ⟨?_, ?_⟩) ?_
  · have c := of_decide_eq_true hk
    have hK : soK sc t = (soQ sc t).1.map fun m => (((soQ sc t).1.headD ("", "")).1, m.2) := if_pos c
    rw [hK]
    refine js_set (i := 2) (w := .d (.list (((soQ sc t).1.map fun m => (((soQ sc t).1.headD ("", "")).1, m.2)).map pD))) sc_law_some.nd rfl (JE.frz (jn_map [("_law_one", 4)] sc_law_some.nd (blkOk_by (N := n_law_some) (sc := defScope s_law_some) (by decide +kernel)) (ji_list (ds := (soQ sc t).1.map pD) (vr 2)) (by simp) (by rw [List.length_map, sizeLine_eq]; omega) trivial fun i d hd => ?_)) (js_nil ⟨by rw [sset_sset]; rfl, rfl⟩)
    rw [List.getElem?_map] at hd
    obtain ⟨m, hm, rfl⟩ := Option.map_eq_some_iff.mp hd
    refine ⟨[4], _, .tuple [.str ((soQ sc t).1.headD ("", "")).1, .str m.2], by decide, fun s H C cl fp => jg_name (i := 4) sc_law_some.nd rfl, fun s H C cl fp => je_tup (ds := [.str ((soQ sc t).1.headD ("", "")).1, .str m.2]) (a2 (ixT (d := .str ((soQ sc t).1.headD ("", "")).1) (je_ix ix_list (vr 2) je_int (rj_ixL (d := pD ((soQ sc t).1.headD ("", ""))) .d ?_)) at0) (ixT (d := .str m.2) (vr 4))), ?_⟩
    · cases c : (soQ sc t).1 with
      | nil => rw [c] at hq; simp at hq
      | cons x y => exact at0
    · rw [List.map_map, List.getElem?_map, hm]
      rfl
  · rw [sset_sset]; rfl
  · have c := of_decide_eq_false hk
    have hK : soK sc t = (soQ sc t).1 := if_neg c
    rw [hK]
    rfl
  · rintro G' S' ⟨rfl, rfl⟩
    have hl := soK_len (sc := sc) (t := t)
    exact js_ret (je_tuple T.b_tuple (JE.frz (jn_sortSetP (ks := soK sc t) (pe_callB (cr_sortedP rfl hu) rfl T.b_sorted PyProof.Rows.boot_sorted pa_w (by decide) (by decide) rfl rfl) (pe_callTy (cr_setP rfl hu) rfl T.b_set PyProof.Rows.boot_set pa_w (by decide) (by decide) rfl rfl) (a1 (vr 2)) (by omega) hr1 hr2)) .d) ⟨.refl _, .refl _⟩
/-! ### lot -/
def rLot (K : PySem.W.Frag) : Rel := fun ds S r S' => ∃ (xs : Wv) (sc : List Int) (p : Addr) (t : Tn) (e : Nat) (rs : List Int), ds = [xs, .o p, .d (fD 2 e), .d (.int 3)] ∧ S p = some (.lst (tnD t)) ∧ ScL K xs sc ∧ e ≤ 2 ∧ rs.Pairwise (· < ·) ∧ (∀ k, k ∈ rs ↔ k ∈ (ltQ sc e t).1) ∧ rs.length ≤ 3 ∧ r = .d (lotD (ltF sc (ltQ sc e t).2 rs).1) ∧ S' = sset S p (.lst (tnD (ltF sc (ltQ sc e t).2 rs).2))
theorem ok_lot (T : Tab K mg) : Ok P w base T.law_lot 5 (rLot K) := fn_j T.law_lot.F sc_law_lot (fun _ _ _ _ ⟨_, _, _, _, _, _, e, _⟩ => by rw [e]; rfl) fun cdv A outer s H E hr ds S r S' ⟨xs, sc, p, t, e, rs, e1, hS, hsc, he, hr1, hr2, hr3, er, eS⟩ => by
  subst e1 er eS
  have hu := hr.units
  obtain ⟨h1, h2⟩ := dr_bd (sc := sc) (t := t) (many := 3) (by decide)
  have hq := ltQ_len (sc := sc) (e := e) (t := t)
  have hne : rs ≠ [] := fun z => by
    cases c : (ltQ sc e t).1 with
    | nil => rw [c] at hq; simp at hq
    | cons x y => have := (hr2 x).mpr (by rw [c]; exact List.mem_cons_self); rw [z] at this; cases this
  refine js_set (i := 4) (w := .d (.list (rs.map .int))) (S1 := sset S p (.lst (tnD (ltQ sc e t).2))) sc_law_lot.nd rfl (JE.frz (jn_sortSetI (ns := (ltQ sc e t).1) (pe_callB (cr_sortedSet rfl) rfl T.b_sorted PyProof.Rows.boot_sorted pa_w (by decide) (by decide) rfl rfl) (pe_callTy (cr_setI rfl) rfl T.b_set PyProof.Rows.boot_set pa_w (by decide) (by decide) rfl rfl) (a1 (JE.frz (jn_lc (own := [("_law_k", 5)]) (fun i acc S' => acc = ((nuN sc e (drF sc t 3).2 i).1).map .int ∧ S' = sset S p (.lst (tnD (nuN sc e (drF sc t 3).2 i).2))) rfl sc_law_lot.nd (blkOk_by (N := n_law_lot) (sc := defScope s_law_lot) (by decide +kernel)) (by intro i hi; simp at hi; subst hi; rfl)
    (ji_range1 (pi_range1 rfl T.b_range pa_w) (a1 (je_op op_add je_int (je_call (ok_draw T) (hr.mono (by decide)) (a3 (vr 0) (vr 1) (vr 3)) ⟨xs, sc, p, t, 3, rfl, hS, by decide, by decide, hsc, rfl, rfl⟩) rj_add)) (by omega) (by omega)) ⟨Nat.zero_le _, ?_, ?_⟩ (fun _ _ _ _ => trivial) ⟨rfl, rfl⟩ ?_ (by rw [rangeD_len, sizeLine_eq]; omega)))) (by omega) hr1 hr2)) ?_
  · rintro i d acc S' hd ⟨rfl, rfl⟩
    refine ⟨[5], _, by decide, fun s H C cl fp => jg_name (i := 5) sc_law_lot.nd rfl, _, _, fun s H C cl fp => je_call (ok_number T) (hr.mono (by decide)) (a3 (vr 0) (vr 1) (vr 2)) ⟨xs, sc, p, _, e, rfl, sset_same, hsc, he, rfl, rfl⟩, ?_, ?_⟩
    · show _ = ((nuN sc e (drF sc t 3).2 i).1 ++ [_]).map PyData.int
      rw [List.map_append]
      rfl
    · rw [sset_sset]; rfl
  · rintro i acc S' hi ⟨rfl, _⟩
    rw [List.length_map, nuN_len]
    exact Nat.le_refl _
  · rintro acc S' ⟨rfl, rfl⟩
    rw [rangeD_len]
    exact ⟨rfl, rfl⟩
  generalize (ltQ sc e t).2 = t2
  refine js_seq (fun G' S' => S' = sset S p (.lst (tnD (ltF sc t2 rs).2)) ∧ G' = [some xs, some (.o p), some (.d (fD 2 e)), some (.d (.int 3)), some (.d (.list ((ltF sc t2 rs).1.map .int))), none]) (js1_if (k := decide (0 < (drF sc t2 3).1 ∧ 0 ≤ rs.headD 0 ∧ rs.length < 3)) (S1 := sset S p (.lst (tnD (drF sc t2 3).2))) (jt_w (jw_andS (k := decide (0 < (drF sc t2 3).1)) (S1 := sset S p (.lst (tnD (drF sc t2 3).2))) (jt_cmp op_gt (JE.is2 (je_call (ok_draw T) (hr.mono (by decide)) (a3 (vr 0) (vr 1) je_int) ⟨xs, sc, p, _, 3, rfl, sset_same, by decide, by decide, hsc, rfl, rfl⟩) rfl sset_sset) je_int (JRis rj_gt rfl)) (fun h => ⟨decide_eq_false fun z => of_decide_eq_false h z.1, rfl⟩) fun h => jw_and (k := decide (0 ≤ rs.headD 0)) (jt_cmp op_ge (je_ix ix_list (vr 4) je_int (rj_ixL (d := .int (rs.headD 0)) .d ?_)) je_int (JRis rj_ge rfl)) (fun h => decide_eq_false fun z => of_decide_eq_false h z.2.1) fun h2 => jw_and1 (jt_cmp op_lt (je_lenL T.b_len (vr 4) .d) (vr 3) (JRis rj_lt ?_)))) (fun hk => ?_) fun hk => js_nil ⟨?_, ?_⟩) ?_
  · cases rs with
    | nil => exact absurd rfl hne
    | cons x y => exact at0
  · have z1 := of_decide_eq_true h
    have z2 := of_decide_eq_true h2
    rw [List.length_map]
    by_cases c : rs.length < 3
    · rw [decide_eq_true (show (rs.length : Int) < 3 by omega), decide_eq_true ⟨z1, z2, c⟩]
    · rw [decide_eq_false (show ¬ (rs.length : Int) < 3 by omega), decide_eq_false (fun z => c z.2.2)]
  · have c := of_decide_eq_true hk
    have hF : ltF sc t2 rs = (-(pck (0 : Int) sc (drF sc t2 3).2 [1, 2, 3]).1 :: rs, (pck (0 : Int) sc (drF sc t2 3).2 [1, 2, 3]).2) := if_pos c
    rw [hF]
    exact js_set (i := 4) (w := .d (.list ((-(pck (0 : Int) sc (drF sc t2 3).2 [1, 2, 3]).1 :: rs).map .int))) sc_law_lot.nd rfl (JE.frz (jn_op op_catR (JE.frz (jn_lst (ds := [.int (-(pck (0 : Int) sc (drF sc t2 3).2 [1, 2, 3]).1)]) (a1 (je_un un_neg (je_call (ok_pick T) (hr.mono (by decide)) (a3 (vr 0) (vr 1) (JE.frz (jn_lst (ds := [1, 2, 3].map PyData.int) (a3 je_int je_int je_int)))) (pick_of (f := PyData.int) (d := (0 : Int)) (l := [1, 2, 3]) sset_same hsc (.inl rfl) (by simp) (by decide))) uj_neg)))) (vr 4) (rn_cat .d .d (by rw [List.length_map, List.length_singleton, sizeLine_eq]; omega)))) (js_nil ⟨by rw [sset_sset], rfl⟩)
  · rw [show ltF sc t2 rs = (rs, (drF sc t2 3).2) from if_neg (of_decide_eq_false hk)]
  · rw [show ltF sc t2 rs = (rs, (drF sc t2 3).2) from if_neg (of_decide_eq_false hk)]
    rfl
  · rintro G' S' ⟨rfl, rfl⟩
    exact js_ret (je_tuple T.b_tuple (vr 4) .d) ⟨.refl _, .refl _⟩
end
end J

-- JM6
set_option Elab.async false
set_option linter.all false
set_option maxRecDepth 100000
set_option maxHeartbeats 4000000
/-! The law's parted: pairs marked when they are taken. -/
namespace J
open PySem PySem.Spec PyProof.Rows L2
structure QMid (e : Nat) (a b : TP) (lot : List Int) (s : Pair) (lv : List Item) (n0 i : Nat) (lt : List Item) (sn : List Pair) (td : Pair → Int → Prop) : Prop where
  rs : ∀ p ∈ sn, Rch e a b lot s p ∧ PrOk e a b p
  nd : sn.Nodup
  vl : ∀ it ∈ lv, Rch e a b lot s it.2 ∧ PrOk e a b it.2 ∧ it.1.length ≤ n0
  tl : ∀ it ∈ lt, Rch e a b lot s it.2 ∧ PrOk e a b it.2 ∧ it.1.length ≤ sn.length
  ge : n0 ≤ sn.length
  cnt : lt.length ≤ 4 * (sn.length - n0)
  st : s ∈ sn ∨ s ∈ lt.map (·.2) ∨ s ∈ (lv.drop i).map (·.2)
  cl : ∀ p ∈ sn, ∀ x ∈ lot, td p x ∨ (¬ difP e a b (stepP e a b p x) ∧ (stepP e a b p x ∈ sn ∨ stepP e a b p x ∈ lt.map (·.2) ∨ stepP e a b p x ∈ (lv.drop i).map (·.2)))
section
variable {e : Nat} {a b : TP} {lot : List Int} {s : Pair} {lv lt : List Item} {n0 i : Nat} {sn : List Pair} {it : Item}
theorem drop_item (h : lv[i]? = some it) : lv.drop i = it :: lv.drop (i + 1) := by
  obtain ⟨h1, h2⟩ := List.getElem?_eq_some_iff.mp h
  rw [List.drop_eq_getElem_cons h1, h2]
/-- what stood behind or at the item, the item being in sn' -/
theorem drop_or {q : Pair} {sn' : List Pair} (h : lv[i]? = some it) (hin : it.2 ∈ sn') (mono : ∀ p ∈ sn, p ∈ sn') (z : q ∈ sn ∨ q ∈ lt.map (·.2) ∨ q ∈ (lv.drop i).map (·.2)) : q ∈ sn' ∨ q ∈ lt.map (·.2) ∨ q ∈ (lv.drop (i + 1)).map (·.2) := by
  rcases z with z | z | z
  · exact .inl (mono _ z)
  · exact .inr (.inl z)
  · rw [drop_item h, List.map_cons] at z
    rcases List.mem_cons.mp z with rfl | z
    · exact .inl hin
    · exact .inr (.inr z)
theorem QMid.skip (M : QMid e a b lot s lv n0 i lt sn fun _ _ => False) (h : lv[i]? = some it) (hin : it.2 ∈ sn) : QMid e a b lot s lv n0 (i + 1) lt sn fun _ _ => False :=
  ⟨M.rs, M.nd, M.vl, M.tl, M.ge, M.cnt, drop_or h hin (fun _ z => z) M.st, fun p hp x hx => (M.cl p hp x hx).imp id fun ⟨h1, h2⟩ => ⟨h1, drop_or h hin (fun _ z => z) h2⟩⟩
theorem QMid.mark (M : QMid e a b lot s lv n0 i lt sn fun _ _ => False) (h : lv[i]? = some it) (hnew : it.2 ∉ sn) : QMid e a b lot s lv n0 (i + 1) lt (sn ++ [it.2]) fun q x => q = it.2 ∧ ∀ j : Nat, j < 0 → lot[j]? ≠ some x := by
  have him : it ∈ lv := List.mem_of_getElem? h
  have mono : ∀ p ∈ sn, p ∈ sn ++ [it.2] := fun p hp => List.mem_append_left _ hp
  have hin : it.2 ∈ sn ++ [it.2] := List.mem_append_right _ (List.mem_singleton.mpr rfl)
  have hl := M.vl it him
  refine ⟨fun p hp => ?_, ?_, M.vl, fun j hj => ?_, ?_, ?_, drop_or h hin mono M.st, fun p hp x hx => ?_⟩
  · rcases List.mem_append.mp hp with z | z
    · exact M.rs p z
    · rw [List.mem_singleton.mp z]; exact ⟨hl.1, hl.2.1⟩
  · refine List.nodup_append.mpr ⟨M.nd, by simp, fun p hp q hq => ?_⟩
    rw [List.mem_singleton.mp hq]
    rintro rfl
    exact hnew hp
  · have := M.tl j hj
    refine ⟨this.1, this.2.1, ?_⟩
    rw [List.length_append]; omega
  · rw [List.length_append]; have := M.ge; omega
  · rw [List.length_append, List.length_singleton]; have := M.cnt; omega
  · rcases List.mem_append.mp hp with z | z
    · rcases M.cl p z x hx with q | ⟨q1, q2⟩
      · exact q.elim
      · exact .inr ⟨q1, drop_or h hin mono q2⟩
    · exact .inl ⟨List.mem_singleton.mp z, fun j hj => absurd hj (Nat.not_lt_zero _)⟩
theorem QMid.push {k : Nat} {x : Int} {row : List PyData} {p : Pair} {c : Nat} (M : QMid e a b lot s lv n0 i lt sn fun q x => q = p ∧ ∀ j : Nat, j < k → lot[j]? ≠ some x) (hp : p ∈ sn) (hx : lot[k]? = some x) (he : e ≤ 2) (ha : Mach a) (hb : Mach b) (hxn : Num 2 e x)
    (hrow : row.length + 1 ≤ sn.length) (hcnt : lt.length + 1 ≤ 4 * (sn.length - n0)) (hd : ¬ difP e a b (stepP e a b p x)) : QMid e a b lot s lv n0 i (lt ++ [(row ++ [.int x], stepP e a b p x)]) sn fun q x => q = p ∧ ∀ j : Nat, j < k + 1 → lot[j]? ≠ some x := by
  have hxl : x ∈ lot := List.mem_of_getElem? hx
  have hP := M.rs p hp
  have more : ∀ {q : Pair}, q ∈ sn ∨ q ∈ lt.map (·.2) ∨ q ∈ (lv.drop i).map (·.2) → q ∈ sn ∨ q ∈ (lt ++ [(row ++ [PyData.int x], stepP e a b p x)]).map (·.2) ∨ q ∈ (lv.drop i).map (·.2) := fun z => by
    rcases z with z | z | z
    · exact .inl z
    · exact .inr (.inl (by rw [List.map_append]; exact List.mem_append_left _ z))
    · exact .inr (.inr z)
  refine ⟨M.rs, M.nd, M.vl, fun j hj => ?_, M.ge, ?_, more M.st, fun q hq y hy => ?_⟩
  · rcases List.mem_append.mp hj with z | z
    · exact M.tl j z
    · rw [List.mem_singleton.mp z]
      refine ⟨.step hP.1 hxl, step_ok he ha hb hP.2 hxn, ?_⟩
      rw [List.length_append, List.length_singleton]
      exact hrow
  · rw [List.length_append, List.length_singleton]; exact hcnt
  · by_cases c : q = p ∧ y = x
    · obtain ⟨rfl, rfl⟩ := c
      exact .inr ⟨hd, .inr (.inl (by rw [List.map_append]; exact List.mem_append_right _ (List.mem_singleton.mpr rfl)))⟩
    · rcases M.cl q hq y hy with ⟨z1, z2⟩ | ⟨z1, z2⟩
      · refine .inl ⟨z1, fun j hj ej => ?_⟩
        by_cases hjk : j < k
        · exact z2 j hjk ej
        · have : j = k := by omega
          subst this
          rw [hx] at ej
          exact c ⟨z1, (Option.some.inj ej).symm⟩
      · exact .inr ⟨z1, more z2⟩
theorem QMid.unmark {p : Pair} (M : QMid e a b lot s lv n0 i lt sn fun q x => q = p ∧ ∀ j : Nat, j < lot.length → lot[j]? ≠ some x) : QMid e a b lot s lv n0 i lt sn fun _ _ => False :=
  ⟨M.rs, M.nd, M.vl, M.tl, M.ge, M.cnt, M.st, fun q hq x hx => (M.cl q hq x hx).imp (fun ⟨_, z⟩ => by
    obtain ⟨j, hj, ej⟩ := List.getElem_of_mem hx
    exact z j hj (by rw [List.getElem?_eq_getElem hj, ej])) id⟩
theorem QMid.turn (M : QMid e a b lot s lv n0 lv.length lt sn fun _ _ => False) : QMid e a b lot s lt sn.length 0 [] sn fun _ _ => False := by
  have mv : ∀ {q : Pair}, q ∈ sn ∨ q ∈ lt.map (·.2) ∨ q ∈ (lv.drop lv.length).map (·.2) → q ∈ sn ∨ q ∈ ([] : List Item).map (·.2) ∨ q ∈ (lt.drop 0).map (·.2) := fun z => by
    rcases z with z | z | z
    · exact .inl z
    · exact .inr (.inr z)
    · rw [List.drop_length] at z; cases z
  exact ⟨M.rs, M.nd, M.tl, fun it hi => (by cases hi), Nat.le_refl _, Nat.zero_le _, mv M.st, fun p hp x hx => (M.cl p hp x hx).imp id fun ⟨z1, z2⟩ => ⟨z1, mv z2⟩⟩
theorem QMid.first (hs : PrOk e a b s) : QMid e a b lot s [([], s)] 0 0 [] [] fun _ _ => False :=
  ⟨fun p hp => (by cases hp), List.nodup_nil, fun it hi => by rw [List.mem_singleton.mp hi]; exact ⟨.refl, hs, Nat.le_refl _⟩, fun it hi => (by cases hi), Nat.le_refl _, Nat.zero_le _, .inr (.inr (List.mem_singleton.mpr rfl)), fun p hp => (by cases hp)⟩
theorem QMid.no_sep (M : QMid e a b lot s [] n0 0 [] sn fun _ _ => False) : ¬ Sep e a b lot s := by
  refine not_sep (sn := sn) ?_ fun p hp x hx => ?_
  · rcases M.st with z | z | z
    · exact z
    · cases z
    · cases z
  · rcases M.cl p hp x hx with z | ⟨z1, z2⟩
    · exact z.elim
    · refine ⟨z1, ?_⟩
      rcases z2 with z | z | z
      · exact z
      · cases z
      · cases z
theorem QMid.le (M : QMid e a b lot s lv n0 i lt sn td) (he : e ≤ 2) (ha : Mach a) (hb : Mach b) : sn.length ≤ 51076 := sn_le he ha hb M.nd fun p hp => (M.rs p hp).2
end
end J

-- JF5
set_option Elab.async false
set_option linter.all false
set_option maxRecDepth 100000
set_option maxHeartbeats 4000000
/-! The law's own defs: after, shown, parted, is_found. -/
namespace J
open PySem PySem.Spec PyProof.Rows L2
section
variable {P : Program} {w : World} {K : PySem.W.Frag} {mg : Str → Option Value} {base : Heap}
theorem ok_lafter (T : Tab K mg) : Ok P w base T.law_after 11 rAfter := fn_j T.law_after.F sc_law_after (fun _ _ _ _ ⟨_, _, _, _, e, _⟩ => by rw [e]; rfl) fun cdv A outer s H E hr ds S r S' ⟨e, m, p, x, e1, he, hm, hp, hx, er, eS⟩ => by
  subst e1 er eS
  cases p with
  | none => exact js_ret (je_ifT (jt_cmp op_isN (vr 2) je_non rj_isN) je_non) ⟨.refl _, .refl _⟩
  | some p => exact js_ret (je_ifF (jt_cmp op_isN (vr 2) je_non rj_isN) (je_call (ok_next T) (hr.mono (by decide)) (ja_cons (vr 0) (a3 (vr 1) (vr 2) (vr 3))) ⟨e, m, p, x, rfl, he, hm, hp p rfl, hx, rfl, rfl⟩)) ⟨.refl _, .refl _⟩
theorem ok_lshown (T : Tab K mg) : Ok P w base T.law_shown 11 rSeen := fn_j T.law_shown.F sc_law_shown (fun _ _ _ _ ⟨_, _, _, e, _⟩ => by rw [e]; rfl) fun cdv A outer s H E hr ds S r S' ⟨e, m, p, e1, he, hm, hp, er, eS⟩ => by
  subst e1 er eS
  cases p with
  | none => exact js_ret (je_ifT (jt_cmp op_isN (vr 2) je_non rj_isN) je_non) ⟨.refl _, .refl _⟩
  | some p => exact js_ret (je_ifF (jt_cmp op_isN (vr 2) je_non rj_isN) (je_call (ok_tot_at T) (hr.mono (by decide)) (a3 (vr 0) (vr 1) (vr 2)) ⟨e, m, p, rfl, he, hm, hp p rfl, rfl, rfl⟩)) ⟨.refl _, .refl _⟩
/-! ### parted -/
abbrev lpD (it : Item) : PyData := .tuple [.list it.1, .tuple [opD it.2.1, opD it.2.2]]
theorem ok_lparted (T : Tab K mg) : Ok P w base T.law_parted 12 rParted := fn_j T.law_parted.F sc_law_parted (fun _ _ _ _ ⟨_, _, _, _, _, e, _⟩ => by rw [e]; rfl) fun cdv A outer s0 H E hr ds S r S' ⟨e, a, b, lot, s, e1, he, ha, hb, hl, hn, hs, hres, eS⟩ => by
  subst e1 eS
  have hu := hr.units
  have h9 : Room 11 _ := hr.mono (by decide)
  refine js_pr 5 6 sc_law_parted.nd (jax_cons (JE.frz (jn_lst (ds := [lpD ([], s)]) (a1 (je_tup (ds := [.list [], .tuple [opD s.1, opD s.2]]) (a2 (JE.frz (jn_lst (ds := []) ja_nil)) (vr 4))))))
    (jax_new jn_dict fun q hq => jax_nil ⟨_, _, rfl, ?_⟩))
  refine js_while (m0 := 2 * 51076 + 1) (Pv := fun mm G S => ∃ (lv : List Item) (sn : List Pair) (g7 g8 g9 g10 g11 : Option Wv), S = sset S' q (.dct (snD sn)) ∧ G = [some (.d (fD 2 e)), some (.d (pD a)), some (.d (pD b)), some (.d (lotD lot)), some (.d (.tuple [opD s.1, opD s.2])), some (.d (.list (lv.map lpD))), some (.o q), g7, g8, g9, g10, g11] ∧
    QMid e a b lot s lv sn.length 0 [] sn (fun _ _ => False) ∧ 2 * (51076 - sn.length) + (if lv = [] then 0 else 1) ≤ mm) PassesOwn.never ⟨[([], s)], [], none, none, none, none, none, rfl, rfl, QMid.first hs, by simp⟩ ?_
  rintro mm G' S2 ⟨lv, sn, g7, g8, g9, g10, g11, rfl, rfl, M, hm⟩
  have hsn := M.le he ha hb
  refine ⟨_, _, jt_cmp (op_neE hr.units0) (vr 5) (JE.frz (jn_lst (ds := []) ja_nil)) (rj_eqE .d), fun hk => ?_, fun hk => ?_⟩
  · have hlv : lv ≠ [] := by
      rintro rfl
      exact absurd hk (by decide)
    refine js_setN (i := 7) sc_law_parted.nd rfl (jn_lst (ds := []) ja_nil) fun l hl' => ?_
    have hql : q ≠ l := fun z => by rw [← z, sset_same] at hl'; cases hl'
    refine js_for (fun i G S => ∃ (lt : List Item) (sn' : List Pair) (g8 g9 g10 g11 : Option Wv), S = sset (sset S' q (.dct (snD sn'))) l (.lst (lt.map lpD)) ∧ G = [some (.d (fD 2 e)), some (.d (pD a)), some (.d (pD b)), some (.d (lotD lot)), some (.d (.tuple [opD s.1, opD s.2])), some (.d (.list (lv.map lpD))), some (.o q), some (.o l), g8, g9, g10, g11] ∧
      QMid e a b lot s lv sn.length i lt sn' (fun _ _ => False)) PassesOwn.never rfl (ji_list (vr 5)) ⟨[], sn, g8, g9, g10, g11, rfl, rfl, M⟩ (fun _ _ _ _ => trivial) ?_ ?_
    · rintro i d G' S2 hd ⟨lt, sn', g8, g9, g10, g11, rfl, rfl, M'⟩
      rw [List.getElem?_map] at hd
      obtain ⟨it, hit, rfl⟩ := Option.map_eq_some_iff.mp hd
      have him : it ∈ lv := List.mem_of_getElem? hit
      have hS6 : (sset (sset S' q (.dct (snD sn'))) l (.lst (lt.map lpD))) q = some (.dct (snD sn')) := by rw [sset_ne hql, sset_same]
      have hfind := findD_map (ky := prL) prL_inj (fun _ => PyData.bool true) it.2 sn'
      have hsn0 := M'.le he ha hb
      refine ⟨[8, 9], _, jg_tup (ds := [.list it.1, .tuple [opD it.2.1, opD it.2.2]]) rfl (jgs_cons (jg_name (i := 8) sc_law_parted.nd rfl) (jgs_cons (jg_name (i := 9) sc_law_parted.nd rfl) jgs_nil)), ?_⟩
      refine js_if (jt_cmp (op_inN hu) (JE.is (vr 9) (by rw [prL_data])) (vr 6) (rj_inN (ks := prL it.2) (.m hS6) (prL_depth _))) (fun hc => ?_) fun hc => js_nil ?_
      · have hold : it.2 ∈ sn' := by
          refine Decidable.byContradiction fun z => ?_
          rw [hfind, if_neg z] at hc
          cases hc
        exact js_cont ⟨lt, sn', _, _, _, _, rfl, rfl, M'.skip hit hold⟩
      have hnew : it.2 ∉ sn' := by
        intro z
        rw [hfind, if_pos z] at hc
        cases hc
      refine js_putN (ks := prL it.2) (d := .bool true) hu je_bl (vr 6) (JE.is (vr 9) (by rw [prL_data])) hS6 (prL_depth _) (by rw [hfind, if_neg hnew]) (by rw [List.length_map, sizeLine_eq]; omega) ?_
      rw [sset_under hql, show snD sn' ++ [(NestedKey.tup (prL it.2), PyData.bool true)] = snD (sn' ++ [it.2]) from map_snoc (fun p : Pair => (NestedKey.tup (prL p), PyData.bool true)) sn' it.2]
      have MK := M'.mark hit hnew
      have hg0 := M'.ge
      have hc0 := M'.cnt
      have hrow := (M'.vl it him).2.2
      have hlen : (sn' ++ [it.2]).length = sn'.length + 1 := by rw [List.length_append, List.length_singleton]
      have hin : it.2 ∈ sn' ++ [it.2] := List.mem_append_right _ (List.mem_singleton.mpr rfl)
      generalize sn' ++ [it.2] = sn2 at MK hlen hin ⊢
      have hsn2 := MK.le he ha hb
      have hok := (MK.rs _ hin).2
      refine js_for (fun k G S => ∃ (lt : List Item) (g10 g11 : Option Wv), S = sset (sset S' q (.dct (snD sn2))) l (.lst (lt.map lpD)) ∧ G = [some (.d (fD 2 e)), some (.d (pD a)), some (.d (pD b)), some (.d (lotD lot)), some (.d (.tuple [opD s.1, opD s.2])), some (.d (.list (lv.map lpD))), some (.o q), some (.o l), some (.d (.list it.1)), some (.d (.tuple [opD it.2.1, opD it.2.2])), g10, g11] ∧
        QMid e a b lot s lv sn.length (i + 1) lt sn2 (fun q x => q = it.2 ∧ ∀ j : Nat, j < k → lot[j]? ≠ some x) ∧ lt.length + 4 ≤ 4 * (sn2.length - sn.length) + k) PassesOwn.never rfl (ji_tup (vr 3)) ⟨lt, _, _, rfl, rfl, MK, by omega⟩ (fun _ _ _ _ => trivial) ?_ ?_
      · clear MK hc0
        rintro k d G' S2 hd ⟨lt, g10, g11, rfl, rfl, MK, hct⟩
        rw [List.getElem?_map] at hd
        obtain ⟨x, hx, rfl⟩ := Option.map_eq_some_iff.mp hd
        have hxl : x ∈ lot := List.mem_of_getElem? hx
        have hxn := hn x hxl
        have hkl : k < lot.length := (List.getElem?_eq_some_iff.mp hx).1
        have hok2 := step_ok he ha hb hok hxn
        refine ⟨[10], _, jg_name (i := 10) sc_law_parted.nd rfl, ?_⟩
        refine js_set (i := 11) sc_law_parted.nd rfl (je_tup (ds := [opD (stepP e a b it.2 x).1, opD (stepP e a b it.2 x).2]) (a2 (je_call (ok_lafter T) h9 (ja_cons (vr 0) (a3 (vr 1) (ixT (d := opD it.2.1) (vr 9)) (vr 10))) ⟨e, a, it.2.1, x, rfl, he, ha, hok.1, hxn, rfl, rfl⟩) (je_call (ok_lafter T) h9 (ja_cons (vr 0) (a3 (vr 2) (ixT (d := opD it.2.2) (vr 9)) (vr 10))) ⟨e, b, it.2.2, x, rfl, he, hb, hok.2, hxn, rfl, rfl⟩))) ?_
        refine js_if (jt_cmp op_ne (je_call (ok_lshown T) h9 (a3 (vr 0) (vr 1) (ixT (vr 11))) ⟨e, a, (stepP e a b it.2 x).1, rfl, he, ha, hok2.1, rfl, rfl⟩) (je_call (ok_lshown T) h9 (a3 (vr 0) (vr 2) (ixT (vr 11))) ⟨e, b, (stepP e a b it.2 x).2, rfl, he, hb, hok2.2, rfl, rfl⟩) (rj_neO _ _)) (fun hd => ?_) fun hd => js_nil ?_
        · have hdif : difP e a b (stepP e a b it.2 x) := by
            intro z
            have : (seF e a (stepP e a b it.2 x).1 = seF e b (stepP e a b it.2 x).2) := z
            rw [decide_eq_true this] at hd
            cases hd
          have hsep : Sep e a b lot s := ⟨it.2, x, (MK.rs _ hin).1, hxl, hdif⟩
          rcases hres with ⟨_, rfl⟩ | ⟨h, _⟩
          · refine js_ret (JE.frz (jn_op op_catR (vr 8) (JE.frz (jn_lst (ds := [.int x]) (a1 (vr 10)))) (rn_cat .d .d ?_))) ⟨.s ⟨_, rfl⟩, ?_⟩
            · rw [List.length_singleton, sizeLine_eq]; omega
            · exact SubS.set2 (by rwa [sset_ne (Ne.symm hql)] at hl') (SubS.set hq)
          · exact absurd hsep h
        · have hdif : ¬ difP e a b (stepP e a b it.2 x) := by
            intro z
            have : ¬ (seF e a (stepP e a b it.2 x).1 = seF e b (stepP e a b it.2 x).2) := z
            rw [decide_eq_false this] at hd
            cases hd
          refine js_expr (je_append (d := lpD (it.1 ++ [.int x], stepP e a b it.2 x)) (pe_bm PySem.F.plainAttrs_list PySem.F.slot_list_append PySem.F.type_list_append mt_append pe_w pa_w) (vr 7) ⟨_, sset_same⟩ (a1 (je_tup (ds := [.list (it.1 ++ [.int x]), .tuple [opD (stepP e a b it.2 x).1, opD (stepP e a b it.2 x).2]]) (a2 (JE.frz (jn_op op_catR (vr 8) (JE.frz (jn_lst (ds := [.int x]) (a1 (vr 10)))) (rn_cat .d .d ?_))) (vr 11)))) sset_same ?_) (js_nil ?_)
          · rw [List.length_singleton, sizeLine_eq]; omega
          · rw [List.length_map, sizeLine_eq]; omega
          · refine ⟨lt ++ [(it.1 ++ [.int x], stepP e a b it.2 x)], _, _, ?_, rfl, MK.push (c := 0) hin hx he ha hb hxn (by omega) (by omega) hdif, ?_⟩
            · rw [sset_sset, List.map_append]; rfl
            · rw [List.length_append, List.length_singleton]; omega
      · clear MK hc0
        rintro G' S2 ⟨lt, g10, g11, rfl, rfl, MK, hct⟩
        rw [List.length_map] at MK
        exact js_nil ⟨lt, sn2, _, _, _, _, rfl, rfl, MK.unmark⟩
    · rintro G' S2 ⟨lt, sn', g8, g9, g10, g11, rfl, rfl, M'⟩
      rw [List.length_map] at M'
      have hl2 : (sset S' q (.dct (snD sn'))) l = none := by
        rw [sset_ne (Ne.symm hql)]
        rwa [sset_ne (Ne.symm hql)] at hl'
      refine js_set (i := 5) sc_law_parted.nd rfl (JE.frzO (vr 7) sset_same) (js_nil ?_)
      have hsn' := M'.le he ha hb
      have hcnt := M'.cnt
      refine ⟨mm - 1, ?_, lt, sn', _, _, _, _, _, sdel_sset hl2, rfl, M'.turn, ?_⟩
      · rw [if_neg hlv] at hm
        omega
      · rw [if_neg hlv] at hm
        have := M'.ge
        by_cases hlt : lt = []
        · rw [if_pos hlt]
          omega
        · rw [if_neg hlt]
          have := List.length_pos_iff.mpr hlt
          omega
  · have hlv : lv = [] := by
      cases lv with
      | nil => rfl
      | cons x y => exact absurd hk (by simp)
    subst hlv
    rcases hres with ⟨h, _⟩ | ⟨_, rfl⟩
    · exact absurd h M.no_sep
    · exact js_ret je_non ⟨.refl _, SubS.set hq⟩
end
end J

-- JF6
set_option Elab.async false
set_option linter.all false
set_option maxRecDepth 100000
set_option maxHeartbeats 4000000
/-! The law's own defs: is_found, state, groups. -/
namespace J
open PySem PySem.Spec PyProof.Rows L2
theorem inV_oV {x : Option Int} : ∀ {xs : List (Option Int)}, inV (oV x) (xs.map oV) = decide (x ∈ xs)
  | [] => rfl
  | y :: xs => by
    have ih := inV_oV (x := x) (xs := xs)
    unfold inV at ih ⊢
    rw [List.map_cons, List.any_cons, ih]
    by_cases h : x = y
    · subst h
      cases x <;> simp [eqV, oV]
    · have h' : ¬ y = x := fun z => h z.symm
      cases x with
      | none => cases y with
        | none => exact absurd rfl h
        | some y => simp [eqV, oV]
      | some x => cases y with
        | none => simp [eqV, oV]
        | some y =>
          have h2 : ¬ y = x := fun z => h' (by rw [z])
          have h3 : ¬ x = y := fun z => h (by rw [z])
          simp [eqV, oV, h2, h3]
section
variable {P : Program} {w : World} {K : PySem.W.Frag} {mg : Str → Option Value} {base : Heap}
theorem ok_lfound (T : Tab K mg) : Ok P w base T.law_is_found 13 rFound := fn_j T.law_is_found.F sc_law_is_found (fun _ _ _ _ ⟨_, _, _, _, e, _⟩ => by rw [e]; rfl) fun cdv A outer s0 H E hr ds S r S' ⟨e, lot, ms, s, e1, he, hL, hm, hs, hres, eS⟩ => by
  subst e1 eS
  obtain ⟨f, t, rfl⟩ : ∃ f t, s = f :: t := by
    cases s with
    | nil => exact absurd rfl hs.ne
    | cons f t => exact ⟨f, t, rfl⟩
  have hlen := hs.len hm
  have hmf := hs.mach hm f List.mem_cons_self
  have hof := hs.ok f List.mem_cons_self
  refine js_set (i := 3) sc_law_is_found.nd rfl (ixT (d := mpD f) (vr 2) at0) ?_
  refine js_for (fun i G S => S = S' ∧ (∃ g4 g5, G = [some (.d (fD 2 e)), some (.d (lotD lot)), some (.d (stD (f :: t))), some (.d (mpD f)), g4, g5]) ∧ ∀ j o, j < i → t[j]? = some o → ¬ Sep e f.1 o.1 lot (f.2, o.2)) PassesOwn.never rfl (ji_tup (je_from1 (ds := (f :: t).map mpD) (vr 2) (by simp))) ⟨rfl, ⟨none, none, rfl⟩, fun j o hj => absurd hj (Nat.not_lt_zero _)⟩ (fun _ _ _ _ => trivial) ?_ ?_
  · rintro i d G' S2 hd ⟨rfl, ⟨g4, g5, rfl⟩, hi⟩
    have hd' : (t.map mpD)[i]? = some d := hd
    rw [List.getElem?_map] at hd'
    obtain ⟨o, ho, rfl⟩ := Option.map_eq_some_iff.mp hd'
    have hom : o ∈ f :: t := List.mem_cons_of_mem _ (List.mem_of_getElem? ho)
    have hmo := hs.mach hm o hom
    have hoo := hs.ok o hom
    refine ⟨[4, 5], _, jg_tup (ds := [pD o.1, opD o.2]) rfl (jgs_cons (jg_name (i := 4) sc_law_is_found.nd rfl) (jgs_cons (jg_name (i := 5) sc_law_is_found.nd rfl) jgs_nil)), ?_⟩
    have arg := fun (X : Cx) => @ja_cons X
    by_cases hsep : Sep e f.1 o.1 lot (f.2, o.2)
    · have hnf : ¬ Fnd e lot (f :: t) := fun z => z f rfl o (List.mem_of_getElem? ho) hsep
      rcases hres with ⟨h, _⟩ | ⟨_, rfl⟩
      · exact absurd h hnf
      · refine js_ifT (jt_cmp op_notN (je_call (ok_lparted T) (hr.mono (by decide)) (ja_cons (vr 0) (ja_cons (ixT (d := pD f.1) (vr 3)) (a3 (vr 4) (vr 1) (je_tup (ds := [opD f.2, opD o.2]) (a2 (ixT (d := opD f.2) (vr 3)) (vr 5)))))) ⟨e, f.1, o.1, lot, (f.2, o.2), rfl, he, hmf, hmo, hL.len, hL.num, ⟨hof, hoo⟩, .inl ⟨hsep, rfl⟩, rfl⟩) je_non (rj_notNs isList_no)) (js_ret je_bl ⟨.refl _, .refl _⟩)
    · refine js_ifF (jt_cmp op_notN (je_call (ok_lparted T) (hr.mono (by decide)) (ja_cons (vr 0) (ja_cons (ixT (d := pD f.1) (vr 3)) (a3 (vr 4) (vr 1) (je_tup (ds := [opD f.2, opD o.2]) (a2 (ixT (d := opD f.2) (vr 3)) (vr 5)))))) ⟨e, f.1, o.1, lot, (f.2, o.2), rfl, he, hmf, hmo, hL.len, hL.num, ⟨hof, hoo⟩, .inr ⟨hsep, rfl⟩, rfl⟩) je_non rj_notN) (js_nil (js_nil ⟨rfl, ⟨_, _, rfl⟩, fun j o' hj ho' => ?_⟩))
      by_cases hjk : j < i
      · exact hi j o' hjk ho'
      · have : j = i := by omega
        subst this
        rw [ho] at ho'
        cases ho'
        exact hsep
  · rintro G' S2 ⟨rfl, ⟨g4, g5, rfl⟩, hi⟩
    have hf : Fnd e lot (f :: t) := fun f' hf' o ho => by
      cases hf'
      have ho' : o ∈ t := ho
      obtain ⟨j, hj, ej⟩ := List.getElem_of_mem ho'
      refine hi j o ?_ (by rw [List.getElem?_eq_getElem hj, ej])
      show j < (t.map mpD).length
      rw [List.length_map]
      exact hj
    rcases hres with ⟨_, rfl⟩ | ⟨h, _⟩
    · exact js_ret je_bl ⟨.refl _, .refl _⟩
    · exact absurd hf h
/-! ### state -/
theorem ok_lstate (T : Tab K mg) : Ok P w base T.law_state 12 rBehind := fn_j T.law_state.F sc_law_state (fun _ _ _ _ ⟨_, _, _, _, e, _⟩ => by rw [e]; rfl) fun cdv A outer s H E hr ds S r S' ⟨e, ms, row, told, e1, he, hl3, hm, hl, hn, er, eS⟩ => by
  subst e1 er eS
  have hu := hr.units
  refine js_setN (i := 4) sc_law_state.nd rfl (jn_lst (ds := []) ja_nil) fun q hq => ?_
  refine js_for (fun i G S => S = sset S' q (.lst ((behF e (ms.take i) row told).map mpD)) ∧ ∃ t t2 t3, G = [some (.d (fD 2 e)), some (.d (msD ms)), some (.d (rowD row)), some (.d (.list (told.map oI))), some (.o q), t, t2, t3]) PassesOwn.never rfl (ji_tup (vr 1)) ⟨rfl, none, none, none, rfl⟩ (fun _ _ _ _ => trivial) ?_ ?_
  · rintro i d G' S2 hd ⟨rfl, t, t2, t3, rfl⟩
    rw [List.getElem?_map] at hd
    obtain ⟨m, hmi, rfl⟩ := Option.map_eq_some_iff.mp hd
    have hmm := hm m (List.mem_of_getElem? hmi)
    have hbl := beh_len (e := e) (ms := ms.take i) (row := row) (told := told)
    rw [List.length_take] at hbl
    refine ⟨[5], _, jg_name (i := 5) sc_law_state.nd rfl, ?_⟩
    refine js_if (k := decide (tolF e m row = told)) (jt_cmp (op_eqD hu) (je_call (ok_totals T) (hr.mono (by decide)) (a3 (vr 0) (vr 5) (vr 2)) ⟨e, m, row, rfl, he, hmm, by omega, hn, rfl, rfl⟩) (vr 3) (JRis (rj_eqD (oI_shaped _) (oI_shaped _)) (eqvAll_oI _ _))) (fun hk => ?_) fun hk => js_nil (js_nil ⟨?_, _, _, _, rfl⟩)
    · refine js_set (i := 6) (w := .d (opD (some (bgF m)))) sc_law_state.nd rfl (je_call (ok_first T) (hr.mono (by decide)) (a1 (vr 5)) ⟨m, rfl, hmm, rfl, rfl⟩) ?_
      refine js_for (fun j G S => S = sset S' q (.lst ((behF e (ms.take i) row told).map mpD)) ∧ ∃ t3, G = [some (.d (fD 2 e)), some (.d (msD ms)), some (.d (rowD row)), some (.d (.list (told.map oI))), some (.o q), some (.d (pD m)), some (.d (opD (atF e m (some (bgF m)) row j))), t3]) PassesOwn.never rfl (ji_list (vr 2)) ⟨rfl, t3, rfl⟩ (fun _ _ _ _ => trivial) ?_ ?_
      · rintro j d G' S2 hd ⟨rfl, t3, rfl⟩
        rw [List.getElem?_map] at hd
        obtain ⟨x, hx, rfl⟩ := Option.map_eq_some_iff.mp hd
        have hat := at_pl he hmm row (some (bgF m)) j (fun q h => by cases h; exact bg_pl he hmm) hn
        refine ⟨[7], _, jg_name (i := 7) sc_law_state.nd rfl, ?_⟩
        refine js_set (i := 6) (w := .d (opD (atF e m (some (bgF m)) row (j + 1)))) sc_law_state.nd rfl (JE.is (je_call (ok_lafter T) (hr.mono (by decide)) (ja_cons (vr 0) (a3 (vr 5) (vr 6) (vr 7))) ⟨e, m, _, x, rfl, he, hmm, hat, hn x (List.mem_of_getElem? hx), rfl, rfl⟩) ?_) (js_nil ⟨rfl, _, rfl⟩)
        rw [(run_take row (some (bgF m)) j x hx).2]
      · rintro G' S2 ⟨rfl, t3, rfl⟩
        rw [List.length_map]
        have hend : atF e m (some (bgF m)) row row.length = endF e m row := by unfold atF endF; rw [List.take_length]
        rw [hend]
        refine js_expr (je_append (d := mpD (m, endF e m row)) (pe_bm PySem.F.plainAttrs_list PySem.F.slot_list_append PySem.F.type_list_append mt_append pe_w pa_w) (vr 4) ⟨_, sset_same⟩ (a1 (je_tup (ds := [pD m, opD (endF e m row)]) (a2 (vr 5) (vr 6)))) sset_same ?_) (js_nil (js_nil ⟨?_, _, _, _, rfl⟩))
        · rw [List.length_map, sizeLine_eq]; omega
        · rw [sset_sset, beh_succ hmi, if_pos (of_decide_eq_true hk), List.map_append]
          rfl
    · rw [beh_succ hmi, if_neg (of_decide_eq_false hk), List.append_nil]
  · rintro G' S2 ⟨rfl, t, t2, t3, rfl⟩
    rw [List.length_map, List.take_length]
    exact js_frz (i := 4) rfl sset_same (by
      rw [sdel_sset hq]
      exact js_ret (je_tuple T.b_tuple (vr 4) .d) ⟨.refl _, .refl _⟩)
/-! ### groups -/
abbrev nwD (n : Option Int × MPl) : PyData := .tuple [oI n.1, mpD n.2]
def rGroups : Rel := fun ds S r S' => ∃ (e : Nat) (ms : List TP) (s : St) (x : Int), ds = [.d (fD 2 e), .d (stD s), .d (.int x)] ∧ e ≤ 2 ∧ Mss ms ∧ StOk e ms s ∧ Num 2 e x ∧ r = .d (grD (grpF e s x)) ∧ S' = S
theorem ok_lgroups (T : Tab K mg) : Ok P w base T.law_groups 12 rGroups := fn_j T.law_groups.F sc_law_groups (fun _ _ _ _ ⟨_, _, _, _, e, _⟩ => by rw [e]; rfl) fun cdv A outer s0 H E hr ds S r S' ⟨e, ms, s, x, e1, he, hm, hs, hx, er, eS⟩ => by
  subst e1 er eS
  have hu := hr.units
  have hlen := hs.len hm
  have hnl : (newsF e s x).length = s.length := by unfold newsF; rw [List.length_map]
  refine js_setN (i := 3) sc_law_groups.nd rfl (jn_lst (ds := []) ja_nil) fun q hq => ?_
  refine js_for (fun i G S => S = sset S' q (.lst (((newsF e s x).take i).map nwD)) ∧ ∃ t4 t5 t6, G = [some (.d (fD 2 e)), some (.d (stD s)), some (.d (.int x)), some (.o q), t4, t5, t6, none, none, none, none]) PassesOwn.never rfl (ji_tup (vr 1)) ⟨rfl, none, none, none, rfl⟩ (fun _ _ _ _ => trivial) ?_ ?_
  · rintro i d G' S2 hd ⟨rfl, t4, t5, t6, rfl⟩
    rw [List.getElem?_map] at hd
    obtain ⟨o, ho, rfl⟩ := Option.map_eq_some_iff.mp hd
    have hmo := hs.mach hm o (List.mem_of_getElem? ho)
    have hoo := hs.ok o (List.mem_of_getElem? ho)
    refine ⟨[4, 5], _, jg_tup (ds := [pD o.1, opD o.2]) rfl (jgs_cons (jg_name (i := 4) sc_law_groups.nd rfl) (jgs_cons (jg_name (i := 5) sc_law_groups.nd rfl) jgs_nil)), ?_⟩
    refine js_set (i := 6) sc_law_groups.nd rfl (je_call (ok_lafter T) (hr.mono (by decide)) (ja_cons (vr 0) (a3 (vr 4) (vr 5) (vr 2))) ⟨e, o.1, o.2, x, rfl, he, hmo, hoo, hx, rfl, rfl⟩) ?_
    refine js_expr (je_append (d := nwD (seF e o.1 (nxF e o.1 o.2 x), (o.1, nxF e o.1 o.2 x))) (pe_bm PySem.F.plainAttrs_list PySem.F.slot_list_append PySem.F.type_list_append mt_append pe_w pa_w) (vr 3) ⟨_, sset_same⟩ (a1 (je_tup (ds := [oI (seF e o.1 (nxF e o.1 o.2 x)), mpD (o.1, nxF e o.1 o.2 x)]) (a2 (je_call (ok_lshown T) (hr.mono (by decide)) (a3 (vr 0) (vr 4) (vr 6)) ⟨e, o.1, _, rfl, he, hmo, nx_pl he hmo hoo hx, rfl, rfl⟩) (je_tup (ds := [pD o.1, opD (nxF e o.1 o.2 x)]) (a2 (vr 4) (vr 6)))))) sset_same ?_) (js_nil ⟨?_, _, _, _, rfl⟩)
    · rw [List.length_map, List.length_take, sizeLine_eq]; omega
    · rw [sset_sset, news_take ho, List.map_append]
      rfl
  rintro G' S2 ⟨rfl, t4, t5, t6, rfl⟩
  rw [List.length_map, ← hnl, List.take_length]
  generalize hns : newsF e s x = ns at hnl ⊢
  refine js_frz (i := 3) (p := q) (ds := ns.map nwD) rfl sset_same ?_
  rw [sdel_sset hq]
  refine js_setN (i := 7) sc_law_groups.nd rfl (jn_lst (ds := []) ja_nil) fun l hl => ?_
  have hkl := keys_len ns
  refine js_for (fun i G S => S = sset S' l (.lst ((keysF (ns.take i)).map oI)) ∧ ∃ t8 t9, G = [some (.d (fD 2 e)), some (.d (stD s)), some (.d (.int x)), some (.d (.list (ns.map nwD))), t4, t5, t6, some (.o l), t8, t9, none]) PassesOwn.never rfl (ji_list (vr 3)) ⟨rfl, none, none, rfl⟩ (fun _ _ _ _ => trivial) ?_ ?_
  · rintro i d G' S2 hd ⟨rfl, t8, t9, rfl⟩
    rw [List.getElem?_map] at hd
    obtain ⟨n, hn, rfl⟩ := Option.map_eq_some_iff.mp hd
    have hkt := keys_len (ns.take i)
    rw [List.length_take] at hkt
    have htk : keysF (ns.take (i + 1)) = if n.1 ∈ keysF (ns.take i) then keysF (ns.take i) else keysF (ns.take i) ++ [n.1] := by
      rw [List.take_succ, hn]
      exact keys_snoc n.1 n.2 (ns.take i)
    refine ⟨[8, 9], _, jg_tup (ds := [oI n.1, mpD n.2]) rfl (jgs_cons (jg_name (i := 8) sc_law_groups.nd rfl) (jgs_cons (jg_name (i := 9) sc_law_groups.nd rfl) jgs_nil)), ?_⟩
    refine js_if (k := !decide (n.1 ∈ keysF (ns.take i))) (jt_cmp op_notIn_seq (vr 8) (vr 7) (JRis (rj_inL (neg := true) (.o sset_same) (oI_fl n.1) (oI_flat (keysF (ns.take i))) (by cases n.1 <;> rfl) (oV_flat _)) (congrArg Bool.not inV_oV))) (fun hk => ?_) fun hk => js_nil (js_nil ⟨?_, _, _, rfl⟩)
    · refine js_expr (je_append (d := oI n.1) (pe_bm PySem.F.plainAttrs_list PySem.F.slot_list_append PySem.F.type_list_append mt_append pe_w pa_w) (vr 7) ⟨_, sset_same⟩ (a1 (vr 8)) sset_same ?_) (js_nil (js_nil ⟨?_, _, _, rfl⟩))
      · rw [List.length_map, sizeLine_eq]; omega
      · rw [sset_sset, htk, if_neg (fun z => by rw [decide_eq_true z] at hk; cases hk), List.map_append]
        rfl
    · rw [htk, if_pos (of_decide_eq_true (by simpa using hk))]
  rintro G' S2 ⟨rfl, t8, t9, rfl⟩
  rw [List.length_map, List.take_length]
  refine js_frz (i := 7) (p := l) (ds := (keysF ns).map oI) rfl sset_same ?_
  rw [sdel_sset hl]
  refine js_forget (i := 8) (js_forget (i := 9) ?_)
  refine js_ret (JE.frz (jn_map (rs := (grpF e s x).map stD) [("_law_key", 8)] sc_law_groups.nd (blkOk_by (N := n_law_groups) (sc := defScope s_law_groups) (by decide +kernel)) (ji_list (ds := (keysF ns).map oI) (vr 7)) (by unfold grpF; simp [hns]) (by rw [List.length_map, sizeLine_eq]; omega) trivial fun i d hd => ?_)) ⟨.refl _, .refl _⟩
  rw [List.getElem?_map] at hd
  obtain ⟨k, hk, rfl⟩ := Option.map_eq_some_iff.mp hd
  refine ⟨[8], _, stD (grpOf ns k), by decide, fun s H C cl fp => jg_name (i := 8) sc_law_groups.nd rfl, fun s2 H2 C cl fp => je_tuple T.b_tuple (JE.frz (jn_lc (own := [("_law_other", 10), ("_law_own", 9)]) (ds := ns.map nwD) (dsf := (grpOf ns k).map mpD) (fun i acc S2 => S2 = S' ∧ acc = (grpOf (ns.take i) k).map mpD) rfl sc_law_groups.nd (blkOk_by (N := n_law_groups) (by rfl)) (by intro i hi; simp at hi; rcases hi with rfl | rfl <;> rfl)
    (ji_list (ds := ns.map nwD) (vr 3)) ⟨by decide, ?_, ?_⟩ (fun _ _ _ _ => trivial) ⟨rfl, rfl⟩ ?_ (by rw [List.length_map, sizeLine_eq]; omega))) .d, ?_⟩
  · rintro j d acc S2 hd ⟨rfl, rfl⟩
    rw [List.getElem?_map] at hd
    obtain ⟨n, hn, rfl⟩ := Option.map_eq_some_iff.mp hd
    have htk : grpOf (ns.take (j + 1)) k = if k = n.1 then grpOf (ns.take j) k ++ [n.2] else grpOf (ns.take j) k := by
      rw [List.take_succ, hn]
      exact grp_snoc n.1 n.2 (ns.take j) k
    refine ⟨[10, 9], _, by decide, fun s H C cl fp => jg_tup (ds := [oI n.1, mpD n.2]) rfl (jgs_cons (jg_name (i := 10) sc_law_groups.nd rfl) (jgs_cons (jg_name (i := 9) sc_law_groups.nd rfl) jgs_nil)), ?_⟩
    refine ⟨decide (n.1 = k), _, fun s H C cl fp => jt_cmp op_eq (vr 10) (vr 8) (JRis (rj_eq (oI_fl n.1) (oI_fl k) (oV_scal _ _)) (oV_eq _ _)), fun hc => ⟨mpD n.2, _, fun s H C cl fp => vr 9, rfl, ?_⟩, fun hc => ⟨rfl, ?_⟩⟩
    · rw [htk, if_pos (of_decide_eq_true hc).symm, List.map_append]
      rfl
    · rw [htk, if_neg (fun z => of_decide_eq_false hc z.symm)]
  · rintro j acc S2 hj ⟨_, rfl⟩
    rw [List.length_map]
    have h1 : (grpOf (ns.take j) k).length ≤ (ns.take j).length := by
      unfold grpOf
      rw [List.length_map]
      exact List.length_filter_le _ _
    rw [List.length_take] at h1
    omega
  · rintro acc S2 ⟨rfl, rfl⟩
    rw [List.length_map, List.take_length]
    exact ⟨rfl, rfl⟩
  · unfold grpF
    rw [hns, List.map_map, List.getElem?_map, hk]
    rfl
end
end J

-- JF7
set_option Elab.async false
set_option linter.all false
set_option maxRecDepth 100000
set_option maxHeartbeats 4000000
/-! The law's own defs: within, rank. -/
namespace J
open PySem PySem.Spec PyProof.Rows L2
noncomputable def wnB (e : Nat) (lot : List Int) (n : Nat) (s : St) : Bool := @decide (Wn e lot n s) (Classical.propDecidable _)
theorem wnB_iff {e : Nat} {lot : List Int} {n : Nat} {s : St} : wnB e lot n s = true ↔ Wn e lot n s := @decide_eq_true_iff _ (Classical.propDecidable _)
theorem wnB_not {e : Nat} {lot : List Int} {n : Nat} {s : St} (h : ¬ Wn e lot n s) : wnB e lot n s = false := by
  cases c : wnB e lot n s with
  | false => rfl
  | true => exact absurd (wnB_iff.mp c) h
abbrev knL (p : St × Nat) : List NestedKey := [.tup (stL p.1), .num (p.2 : Int)]
theorem knL_data (s : St) (n : Nat) : (NestedKey.tup (knL (s, n))).data = .tuple [stD s, .int (n : Int)] := by
  show PyData.tuple [(NestedKey.tup (stL s)).data, .int (n : Int)] = _
  rw [stL_data]
theorem knL_depth (p : St × Nat) : (NestedKey.tup (knL p)).depth ≤ 8 := by
  have := stL_depth p.1
  show max (NestedKey.tup (stL p.1)).depth (max 0 0) + 1 ≤ 8
  omega
theorem knL_inj (p q : St × Nat) (h : knL p = knL q) : p = q := by
  obtain ⟨s, n⟩ := p
  obtain ⟨t, m⟩ := q
  injection h with h1 h2
  injection h1 with h1
  injection h2 with h2 _
  injection h2 with h2
  have h3 := stL_inj _ _ h1
  simp only at h3 h2
  rw [h3, show n = m by omega]
noncomputable abbrev knD (e : Nat) (lot : List Int) (kn : List (St × Nat)) : List DK := kn.map fun p => (NestedKey.tup (knL p), PyData.bool (wnB e lot p.2 p.1))
/-- what is known, the keys of bs not being there -/
def KB (e : Nat) (lot : List Int) (ms : List TP) (bs : List (St × Nat)) : List DK → Prop := fun kvs => ∃ kn : List (St × Nat), kvs = knD e lot kn ∧ kn.Nodup ∧ (∀ p ∈ kn, StOk e ms p.1 ∧ p.2 ≤ 4) ∧ ∀ p ∈ bs, p ∉ kn
def rWithin (n : Nat) : Rel := fun ds S r S' => ∃ (e : Nat) (ms : List TP) (lot : List Int) (s : St) (q : Addr) (bs : List (St × Nat)), ds = [.d (fD 2 e), .d (lotD lot), .d (stD s), .d (.int (n : Int)), .o q] ∧ e ≤ 2 ∧ Mss ms ∧ LotOk e lot ∧ StOk e ms s ∧ n ≤ 4 ∧ S q = some (.dinv (KB e lot ms bs)) ∧ (∀ p ∈ bs, n < p.2) ∧ r = .d (.bool (wnB e lot n s)) ∧ S' = S
theorem KB.len {e : Nat} {lot : List Int} {ms : List TP} {kn : List (St × Nat)} (he : e ≤ 2) (hm : Mss ms) (nd : kn.Nodup) (ok : ∀ p ∈ kn, StOk e ms p.1 ∧ p.2 ≤ 4) : kn.length ≤ 1406080 := by
  have h1 := nodup_le kn ((univ e ms).flatMap fun s => (List.range 5).map fun n => (s, n)) nd fun p hp => List.mem_flatMap.mpr ⟨p.1, mem_univ he hm (ok p hp).1, List.mem_map.mpr ⟨p.2, List.mem_range.mpr (by have := (ok p hp).2; omega), rfl⟩⟩
  have h2 := flat_len (fun s => (List.range 5).map fun n => (s, n)) 5 (univ e ms) fun x _ => by rw [List.length_map, List.length_range]; exact Nat.le_refl _
  have h3 := univ_len he hm
  omega
theorem kn_find {e : Nat} {lot : List Int} (p : St × Nat) (kn : List (St × Nat)) : findD (knD e lot kn) (.tup (knL p)) = if p ∈ kn then some (.bool (wnB e lot p.2 p.1)) else none := by
  have h := findD_map (ky := knL) knL_inj (fun p => PyData.bool (wnB e lot p.2 p.1)) p kn
  by_cases c : p ∈ kn
  · rw [if_pos c] at h ⊢; exact h
  · rw [if_neg c] at h ⊢; exact h
theorem wnB_zero {e : Nat} {lot : List Int} {s : St} (h : ¬ Fnd e lot s) : wnB e lot 0 s = false := wnB_not h
section
variable {P : Program} {w : World} {K : PySem.W.Frag} {mg : Str → Option Value} {base : Heap}
theorem within_step (T : Tab K mg) (n : Nat) (ih : ∀ m, m + 1 = n → Ok P w base T.law_within (m + 14) (rWithin m)) : Ok P w base T.law_within (n + 14) (rWithin n) := fn_j T.law_within.F sc_law_within (fun _ _ _ _ ⟨_, _, _, _, _, _, e, _⟩ => by rw [e]; rfl) fun cdv A outer s0 H E hr ds S r S' ⟨e, ms, lot, s, q, bs, e1, he, hm, hL, hs, hn4, hS, hbs, er, eS⟩ => by
  subst e1 er eS
  have hu := hr.units
  have hL4 := hL.len
  refine js_open (p := q) hS ?_
  rintro kvs ⟨kn, rfl, nd, ok, hab⟩
  have hS1 : ∀ m : MO, (sset S' q m) q = some m := fun m => sset_same
  have hks := KB.len (lot := lot) he hm nd ok
  refine js_seq (fun G' S2 => ∃ kn' : List (St × Nat), S2 = sset S' q (.dct (knD e lot kn')) ∧ kn'.Nodup ∧ (∀ p ∈ kn', StOk e ms p.1 ∧ p.2 ≤ 4) ∧ (∀ p ∈ bs, p ∉ kn') ∧ (s, n) ∈ kn' ∧ ∃ g5 g6 g7, G' = [some (.d (fD 2 e)), some (.d (lotD lot)), some (.d (stD s)), some (.d (.int (n : Int))), some (.o q), g5, g6, g7])
    (js1_if (k := !decide ((s, n) ∈ kn)) (jt_cmp (op_notInN hu) (JE.is (je_tup (ds := [stD s, .int (n : Int)]) (a2 (vr 2) (vr 3))) (by rw [knL_data])) (vr 4) (JRis (rj_inN (neg := true) (ks := knL (s, n)) (.m (hS1 _)) (knL_depth _)) ?_)) (fun hk => ?_) fun hk => js_nil ⟨kn, rfl, nd, ok, hab, of_decide_eq_true (by simpa using hk), _, _, _, rfl⟩) ?_
  · rw [kn_find]
    by_cases c : (s, n) ∈ kn
    · rw [if_pos c, decide_eq_true c]; rfl
    · rw [if_neg c, decide_eq_false c]; rfl
  · have hnk : (s, n) ∉ kn := of_decide_eq_false (by simpa using hk)
    -- the dict is closed while the rest is found
    refine js_drop (S1 := sset S' q (.dinv (KB e lot ms ((s, n) :: bs)))) ?_ (SubS.both (.refl _) (.inv ⟨kn, rfl, nd, ok, fun p hp => by
      rcases List.mem_cons.mp hp with rfl | hp
      · exact hnk
      · exact hab p hp⟩))
    have hq : (sset S' q (.dinv (KB e lot ms ((s, n) :: bs)))) q = some (.dinv (KB e lot ms ((s, n) :: bs))) := sset_same
    refine js_set (i := 5) (w := .d (.bool (wnB e lot 0 s))) sc_law_within.nd rfl (je_call (ok_lfound T) (hr.mono (by omega)) (a3 (vr 0) (vr 1) (vr 2)) ⟨e, lot, ms, s, rfl, he, hL, hm, hs, ?_, rfl⟩) ?_
    · by_cases c : Fnd e lot s
      · exact .inl ⟨c, by rw [show wnB e lot 0 s = true from wnB_iff.mpr c]⟩
      · exact .inr ⟨c, by rw [wnB_zero c]⟩
    refine js_seq (fun G' S2 => S2 = sset S' q (.dinv (KB e lot ms ((s, n) :: bs))) ∧ ∃ g6, G' = [some (.d (fD 2 e)), some (.d (lotD lot)), some (.d (stD s)), some (.d (.int (n : Int))), some (.o q), some (.d (.bool (wnB e lot n s))), g6, none])
      (js1_if (k := !wnB e lot 0 s && decide (0 < n)) (jt_w (jw_and (k := !wnB e lot 0 s) (jt_not (jt_val (vr 5))) (fun h => by rw [h]; rfl) fun h => jw_and1 (jt_cmp op_gt (vr 3) je_int (JRis rj_gt ?_)))) (fun hk => ?_) fun hk => js_nil ⟨rfl, none, ?_⟩) ?_
    · rw [h, Bool.true_and]
      by_cases c : 0 < n
      · rw [decide_eq_true c, decide_eq_true (by omega)]
      · rw [decide_eq_false c, decide_eq_false (by omega)]
    · rw [Bool.and_eq_true] at hk
      obtain ⟨hk1, hk2⟩ := hk
      have hk1' : wnB e lot 0 s = false := by simpa using hk1
      have hnf : ¬ Fnd e lot s := fun z => by rw [show wnB e lot 0 s = true from wnB_iff.mpr z] at hk1'; cases hk1'
      obtain ⟨m, rfl⟩ : ∃ m, n = m + 1 := ⟨n - 1, by have := of_decide_eq_true hk2; omega⟩
      have ihm := ih m rfl
      have hrm : Room (m + 14) _ := hr.mono (by omega)
      rw [hk1']
      refine js_for (fun i G S => S = sset S' q (.dinv (KB e lot ms ((s, m + 1) :: bs))) ∧ (∀ (j : Nat) (x : Int), j < i → lot[j]? = some x → ¬ Goes e lot m s x) ∧ ∃ g6, G = [some (.d (fD 2 e)), some (.d (lotD lot)), some (.d (stD s)), some (.d (.int ((m + 1 : Nat) : Int))), some (.o q), some (.d (.bool false)), g6, none]) PassesOwn.never rfl (ji_tup (vr 1)) ⟨rfl, fun j x hj => absurd hj (Nat.not_lt_zero _), none, rfl⟩ (fun _ _ _ _ => trivial) ?_ ?_
      · rintro i d G' S2 hd ⟨rfl, hno, g6, rfl⟩
        rw [List.getElem?_map] at hd
        obtain ⟨x, hx, rfl⟩ := Option.map_eq_some_iff.mp hd
        have hxl : x ∈ lot := List.mem_of_getElem? hx
        have hxn := hL.num x hxl
        have hg3 : (grpF e s x).length ≤ 3 := Nat.le_trans grp_len (hs.len hm)
        refine ⟨[6], _, jg_name (i := 6) sc_law_within.nd rfl, ?_⟩
        refine js_if (k := (grpF e s x).all (wnB e lot m)) (jt_val (JE.is (je_all (bs := (grpF e s x).map (wnB e lot m)) T.b_all (JE.frz (jn_map [("_law_one", 7)] sc_law_within.nd (blkOk_by (N := n_law_within) (sc := defScope s_law_within) (by decide +kernel)) (ji_list (ds := (grpF e s x).map stD) (je_call (ok_lgroups T) (hr.mono (by omega)) (a3 (vr 0) (vr 2) (vr 6)) ⟨e, ms, s, x, rfl, he, hm, hs, hxn, rfl, rfl⟩)) (by simp) (by rw [List.length_map, sizeLine_eq]; omega) trivial fun j d2 hd2 => ?_))) (by rw [List.all_map]; rfl))) (fun hk3 => ?_) fun hk3 => js_nil (js_nil ⟨rfl, fun j y hj hy => ?_, _, rfl⟩)
        · rw [List.getElem?_map] at hd2
          obtain ⟨g, hg, rfl⟩ := Option.map_eq_some_iff.mp hd2
          have hgo := grp_ok he hm hs hxn (List.mem_of_getElem? hg)
          refine ⟨[7], _, .bool (wnB e lot m g), by decide, fun s2 H2 C cl fp => jg_name (i := 7) sc_law_within.nd rfl, fun s2 H2 C cl fp => je_call ihm hrm (ja_cons (vr 0) (ja_cons (vr 1) (a3 (vr 7) (JE.is (r' := .d (.int (m : Int))) (je_op op_sub (vr 3) je_int rj_sub) (by rw [show ((m + 1 : Nat) : Int) - 1 = (m : Int) by omega])) (vr 4)))) ⟨e, ms, lot, g, q, (s, m + 1) :: bs, rfl, he, hm, hL, hgo, by omega, sset_same, fun p hp => ?_, rfl, rfl⟩, ?_⟩
          · rcases List.mem_cons.mp hp with rfl | hp
            · exact Nat.lt_succ_self m
            · have := hbs p hp
              omega
          · rw [List.map_map, List.getElem?_map, hg]
            rfl
        · have hgo : Goes e lot m s x := fun g hg => wnB_iff.mp (List.all_eq_true.mp hk3 g hg)
          refine js_set (i := 5) (w := .d (.bool (wnB e lot (m + 1) s))) sc_law_within.nd rfl (JE.is je_bl (by rw [show wnB e lot (m + 1) s = true from wnB_iff.mpr (.inr ⟨x, hxl, hgo⟩)])) (js_brk (js_nil ⟨rfl, _, rfl⟩))
        · by_cases hji : j < i
          · exact hno j y hji hy
          · have : j = i := by omega
            subst this
            rw [hx] at hy
            cases hy
            intro hgo
            have : (grpF e s x).all (wnB e lot m) = true := List.all_eq_true.mpr fun g hg => wnB_iff.mpr (hgo g hg)
            rw [this] at hk3
            cases hk3
      · rintro G' S2 ⟨rfl, hno, g6, rfl⟩
        rw [List.length_map] at hno
        refine js_nil ⟨rfl, g6, ?_⟩
        rw [wnB_not (n := m + 1) fun z => z.elim hnf fun ⟨x, hx, hgo⟩ => by
          obtain ⟨j, hj, ej⟩ := List.getElem_of_mem hx
          exact hno j x hj (by rw [List.getElem?_eq_getElem hj, ej]) hgo]
    · have : wnB e lot 0 s = wnB e lot n s := by
        cases c : wnB e lot 0 s with
        | true => exact (wnB_iff.mpr ((wnB_iff.mp c).le (Nat.zero_le n))).symm
        | false =>
          rw [c, Bool.not_false, Bool.true_and] at hk
          have h0 : n = 0 := by have := of_decide_eq_false hk; omega
          rw [h0, c]
      rw [← this]
      rfl
    · rintro G' S2 ⟨rfl, g6, rfl⟩
      refine js_open (p := q) sset_same ?_
      rintro kvs ⟨kn2, rfl, nd2, ok2, hab2⟩
      rw [sset_sset]
      have hk2 := KB.len (lot := lot) he hm nd2 ok2
      have hnew : (s, n) ∉ kn2 := hab2 _ List.mem_cons_self
      refine js_putN (ks := knL (s, n)) (d := .bool (wnB e lot n s)) hu (vr 5) (vr 4) (JE.is (je_tup (ds := [stD s, .int (n : Int)]) (a2 (vr 2) (vr 3))) (by rw [knL_data])) (hS1 _) (knL_depth _) (by rw [kn_find, if_neg hnew]) (by rw [List.length_map, sizeLine_eq]; omega) (js_nil ⟨kn2 ++ [(s, n)], ?_, ?_, ?_, ?_, List.mem_append_right _ (List.mem_singleton.mpr rfl), _, _, _, rfl⟩)
      · rw [sset_sset, show knD e lot (kn2 ++ [(s, n)]) = knD e lot kn2 ++ [(NestedKey.tup (knL (s, n)), PyData.bool (wnB e lot n s))] from (map_snoc (fun p : St × Nat => (NestedKey.tup (knL p), PyData.bool (wnB e lot p.2 p.1))) kn2 (s, n)).symm]
      · refine List.nodup_append.mpr ⟨nd2, by simp, fun p hp r hr => ?_⟩
        rw [List.mem_singleton.mp hr]
        rintro rfl
        exact hnew hp
      · intro p hp
        rcases List.mem_append.mp hp with z | z
        · exact ok2 p z
        · rw [List.mem_singleton.mp z]; exact ⟨hs, hn4⟩
      · intro p hp z
        rcases List.mem_append.mp z with z | z
        · exact hab2 p (List.mem_cons_of_mem _ hp) z
        · have := hbs p hp
          rw [List.mem_singleton.mp z] at this
          exact Nat.lt_irrefl _ this
  · rintro G' S2 ⟨kn', rfl, nd', ok', hab', hin, g5, g6, g7, rfl⟩
    refine js_ret (je_ix (ix_N hu) (vr 4) (JE.is (je_tup (ds := [stD s, .int (n : Int)]) (a2 (vr 2) (vr 3))) (by rw [knL_data])) (rj_ixN (ks := knL (s, n)) (.m (hS1 _)) (knL_depth _) (by rw [kn_find, if_pos hin]))) ⟨.refl _, ?_⟩
    have h0 : SubS S' (sset S' q (.dinv (KB e lot ms bs))) := by rw [sset_self hS]; exact .refl _
    exact h0.trans (SubS.both (.refl _) (.inv ⟨kn', rfl, nd', ok', hab'⟩))
theorem ok_within (T : Tab K mg) : ∀ n : Nat, Ok P w base T.law_within (n + 14) (rWithin n) := fun n => by
  induction n with
  | zero => exact within_step T 0 (fun m hm => absurd hm (by omega))
  | succ n ih => exact within_step T (n + 1) fun m hm => (Nat.succ.inj hm) ▸ ih
/-! ### rank -/
def rLRank : Rel := fun ds S r S' => ∃ (e : Nat) (ms : List TP) (lot : List Int) (s : St) (q : Addr) (d : PyData), ds = [.d (fD 2 e), .d (lotD lot), .d (stD s), .d (.int 4), .o q] ∧ e ≤ 2 ∧ Mss ms ∧ LotOk e lot ∧ StOk e ms s ∧ S q = some (.dinv (KB e lot ms [])) ∧ ((∃ n : Nat, n ≤ 4 ∧ Least e lot n s ∧ d = .int (n : Int)) ∨ ((∀ n, n ≤ 4 → ¬ Wn e lot n s) ∧ d = .none)) ∧ r = .d d ∧ S' = S
theorem ok_lrank (T : Tab K mg) : Ok P w base T.law_rank 19 rLRank := fn_j T.law_rank.F sc_law_rank (fun _ _ _ _ ⟨_, _, _, _, _, _, e, _⟩ => by rw [e]; rfl) fun cdv A outer s0 H E hr ds S r S' ⟨e, ms, lot, s, q, d, e1, he, hm, hL, hs, hS, hd, er, eS⟩ => by
  subst e1 er eS
  refine js_for (fun i G S => S = S' ∧ (∀ n : Nat, n < i → ¬ Wn e lot n s) ∧ ∃ g5, G = [some (.d (fD 2 e)), some (.d (lotD lot)), some (.d (stD s)), some (.d (.int 4)), some (.o q), g5]) PassesOwn.never rfl (ji_range1 (n := 5) (pi_range1 rfl T.b_range pa_w) (a1 (JE.is (je_op op_add (vr 3) je_int rj_add) rfl)) (by decide) (by decide)) ⟨rfl, fun n hn => absurd hn (Nat.not_lt_zero _), none, rfl⟩ (fun _ _ _ _ => trivial) ?_ ?_
  · rintro i d2 G' S2 hd2 ⟨rfl, hno, g5, rfl⟩
    obtain ⟨hi, rfl⟩ := rangeD_get hd2
    have hi5 : i < 5 := hi
    refine ⟨[5], _, jg_name (i := 5) sc_law_rank.nd rfl, ?_⟩
    have hv : (.d (.int (0 + (i : Int))) : Wv) = .d (.int (i : Int)) := by rw [Int.zero_add]
    refine js_if (k := wnB e lot i s) (jt_val (je_call (ok_within T i) (hr.mono (by omega)) (ja_cons (vr 0) (ja_cons (vr 1) (a3 (vr 2) (JE.is (vr 5) hv) (vr 4)))) ⟨e, ms, lot, s, q, [], rfl, he, hm, hL, hs, by omega, hS, fun p hp => (by cases hp), rfl, rfl⟩)) (fun hk => ?_) fun hk => js_nil (js_nil ⟨rfl, fun n hn => ?_, _, rfl⟩)
    · have hw := wnB_iff.mp hk
      rcases hd with ⟨n, hn, hl, rfl⟩ | ⟨hall, _⟩
      · have : n = i := least_uniq hl ⟨hw, hno⟩
        subst this
        exact js_ret (JE.is (vr 5) hv) ⟨.refl _, .refl _⟩
      · exact absurd hw (hall i (by omega))
    · by_cases hni : n < i
      · exact hno n hni
      · have : n = i := by omega
        subst this
        exact fun z => by rw [wnB_iff.mpr z] at hk; cases hk
  · rintro G' S2 ⟨rfl, hno, g5, rfl⟩
    rw [rangeD_len] at hno
    rcases hd with ⟨n, hn, hl, rfl⟩ | ⟨hall, rfl⟩
    · exact absurd hl.1 (hno n (show n < 5 by omega))
    · exact js_ret je_non ⟨.refl _, .refl _⟩
end
end J

-- JF8
set_option Elab.async false
set_option linter.all false
set_option maxRecDepth 100000
set_option maxHeartbeats 4000000
/-! The law. -/
namespace J
open PySem PySem.Spec PyProof.Rows L2
theorem find_first {f : Int → Bool} : ∀ {lot : List Int} {i : Nat} {x : Int}, lot[i]? = some x → f x = true → (∀ (j : Nat) (y : Int), j < i → lot[j]? = some y → f y = false) → lot.find? f = some x
  | [], i, x, h, _, _ => by simp at h
  | y :: l, 0, x, h, hx, _ => by
    have : y = x := by simpa using h
    subst this
    rw [List.find?_cons, hx]
  | y :: l, i + 1, x, h, hx, hno => by
    rw [List.find?_cons, hno 0 y (Nat.succ_pos i) rfl]
    exact find_first (by simpa using h) hx fun j z hj hz => hno (j + 1) z (Nat.succ_lt_succ hj) (by simpa using hz)
theorem lot_tri (a b : Int) : a < b ∨ a = b ∨ b < a := Int.lt_trichotomy a b
section
variable {P : Program} {w : World} {K : PySem.W.Frag} {mg : Str → Option Value} {base : Heap}
def rLaw (K : PySem.W.Frag) : Rel := fun ds S r S' => ∃ (xs : Wv) (sc : List Int), ds = [xs] ∧ ScL K xs sc ∧ r = .d (.bool true) ∧ S' = S
theorem ok_law (T : Tab K mg) : Ok P w base T.law 20 (rLaw K) := fn_j T.law.F sc_law (fun _ _ _ _ ⟨_, _, e, _⟩ => by rw [e]; rfl) fun cdv A outer s0 H E hr ds S r S' ⟨xs, sc, e1, hsc, er, eS⟩ => by
  subst e1 er eS
  have hu := hr.units
  refine js_setN (i := 1) sc_law.nd rfl (jn_lst (ds := tnD (0, 0)) (a2 je_int je_int)) fun p hp => ?_
  obtain ⟨d1, d2⟩ := dr_bd (sc := sc) (t := (0, 0)) (many := 3) (by decide)
  obtain ⟨e, he⟩ : ∃ e : Nat, (drF sc (0, 0) 3).1 = (e : Int) := ⟨(drF sc (0, 0) 3).1.toNat, by omega⟩
  have he2 : e ≤ 2 := by omega
  generalize ht1 : (drF sc (0, 0) 3).2 = t1
  obtain ⟨ms, ms1, ms2, ms3⟩ := strict_ex ltP_tri ltP_tr (soK sc t1)
  have hkl := soK_len (sc := sc) (t := t1)
  have hM : MsOk ms := by
    refine ⟨fun z => ?_, by omega, fun m hm => soK_mach m ((ms2 m).mp hm), ms1⟩
    cases c : soK sc t1 with
    | nil => rw [c] at hkl; simp at hkl
    | cons x y => have := (ms2 x).mpr (by rw [c]; exact List.mem_cons_self); rw [z] at this; cases this
  have hm := hM.mss
  refine js_tupX 2 (jax_cons (r := .d (fD 2 e)) (je_tup (ds := [.int (2 : Nat), .int (e : Int)]) (a2 je_int (JE.is (je_call (ok_draw T) (hr.mono (by decide)) (a3 (vr 0) (vr 1) je_int) ⟨xs, sc, p, (0, 0), 3, rfl, sset_same, by decide, by decide, hsc, rfl, rfl⟩) (by rw [he])))) (jax_cons (je_call (ok_some T) (hr.mono (by decide)) (a2 (vr 0) (vr 1)) ⟨xs, sc, p, t1, ms, rfl, by rw [← ht1]; exact sset_same, hsc, ms1, ms2, rfl, rfl⟩) (jax_nil ⟨rfl, _, _, jgs_cons (jg_name (i := 2) sc_law.nd rfl) (jgs_cons (jg_name (i := 3) sc_law.nd rfl) jgs_nil), ?_⟩)))
  rw [sset_sset, sset_sset]
  generalize soT sc t1 = t2
  obtain ⟨rs, rs1, rs2, rs3⟩ := strict_ex lot_tri (fun a b c => Int.lt_trans) (ltQ sc e t2).1
  have hql := ltQ_len (sc := sc) (e := e) (t := t2)
  have hLot : Lot e (ltF sc (ltQ sc e t2).2 rs).1 := lot_of he2 rs1 rs2 (by omega)
  refine js_tupX 2 (jax_cons (je_call (ok_lot T) (hr.mono (by decide)) (ja_cons (vr 0) (a3 (vr 1) (vr 2) je_int)) ⟨xs, sc, p, t2, e, rs, rfl, sset_same, hsc, he2, rs1, rs2, by omega, rfl, rfl⟩) (jax_new jn_dict fun q hq => jax_nil ⟨rfl, _, _, jgs_cons (jg_name (i := 4) sc_law.nd rfl) (jgs_cons (jg_name (i := 5) sc_law.nd rfl) jgs_nil), ?_⟩))
  generalize hlt : (ltF sc (ltQ sc e t2).2 rs).1 = lot at hLot ⊢
  generalize (ltF sc (ltQ sc e t2).2 rs).2 = t3
  rw [sset_sset] at hq ⊢
  have hL : LotOk e lot := ⟨hLot.len, hLot.num⟩
  have hL4 := hLot.len
  refine js_drop (S1 := sset (sset S' p (.lst (tnD t3))) q (.dinv (KB e lot ms []))) ?_ (SubS.both (.refl _) (.inv ⟨[], rfl, List.nodup_nil, fun p hp => (by cases hp), fun p hp => (by cases hp)⟩))
  have hpq : p ≠ q := fun z => by rw [← z, sset_same] at hq; cases hq
  have hq0 : S' q = none := by rwa [sset_ne (Ne.symm hpq)] at hq
  have hid : (pck (("", "") : TP) sc t3 ms).1 ∈ ms := pck_mem hM.ne
  have hSp : sset (sset S' p (.lst (tnD t3))) q (.dinv (KB e lot ms [])) p = some (.lst (tnD t3)) := by rw [sset_ne hpq, sset_same]
  refine js_pr 6 7 sc_law.nd (jax_cons (je_call (ok_pick T) (hr.mono (by decide)) (a3 (vr 0) (vr 1) (vr 3)) (pick_of (f := pD) (d := (("", "") : TP)) (l := ms) hSp hsc (.inr rfl) hM.ne (by have := hM.len; omega))) (jax_new (jn_lst (ds := []) ja_nil) fun l hl => jax_nil ⟨_, _, rfl, ?_⟩))
  generalize (pck (("", "") : TP) sc t3 ms).1 = hd at hid ⊢
  generalize (pck (("", "") : TP) sc t3 ms).2 = t4 at hl ⊢
  have hmv : ∀ t : Tn, sset (sset (sset S' p (.lst (tnD t3))) q (.dinv (KB e lot ms []))) p (.lst (tnD t)) = sset (sset S' p (.lst (tnD t))) q (.dinv (KB e lot ms [])) := fun t => sset_under hpq
  rw [hmv] at hl ⊢
  have hpl : p ≠ l := fun z => by rw [← z, sset_ne hpq, sset_same] at hl; cases hl
  have hql' : q ≠ l := fun z => by rw [← z, sset_same] at hl; cases hl
  have hl0 : S' l = none := by rwa [sset_ne (Ne.symm hql'), sset_ne (Ne.symm hpl)] at hl
  have hlS : ∀ t : Tn, sset (sset S' p (.lst (tnD t))) q (.dinv (KB e lot ms [])) l = none := fun t => by rw [sset_ne (Ne.symm hql'), sset_ne (Ne.symm hpl)]; exact hl0
  obtain ⟨d3, d4⟩ := dr_bd (sc := sc) (t := t4) (many := 3) (by decide)
  refine js_for (fun i G S => ∃ (t : Tn) (row : List Int) (g8 : Option Wv), S = St3 S' p q l (.lst (tnD t)) (.dinv (KB e lot ms [])) (.lst (row.map .int)) ∧ row.length = i ∧ (∀ x ∈ row, x ∈ lot) ∧ G = [some xs, some (.o p), some (.d (fD 2 e)), some (.d (msD ms)), some (.d (lotD lot)), some (.o q), some (.d (pD hd)), some (.o l), g8, none, none, none, none, none, none, none]) PassesOwn.never rfl
    (ji_range1 (S1 := St3 S' p q l (.lst (tnD (drF sc t4 3).2)) (.dinv (KB e lot ms [])) (.lst [])) (pi_range1 rfl T.b_range pa_w) (a1 (JE.is2 (je_call (ok_draw T) (hr.mono (by decide)) (a3 (vr 0) (vr 1) je_int) ⟨xs, sc, p, t4, 3, rfl, st3_a hpq hpl, by decide, by decide, hsc, rfl, rfl⟩) rfl (st3_ua hpq hpl))) (by omega) (by omega)) ⟨_, [], none, rfl, rfl, fun x hx => (by cases hx), rfl⟩ (fun _ _ _ _ => trivial) ?_ ?_
  · rintro i d G' S2 hd' ⟨t, row, g8, rfl, hrl, hrow, rfl⟩
    have hi := (rangeD_get hd').1
    refine ⟨[8], _, jg_name (i := 8) sc_law.nd rfl, ?_⟩
    refine js_expr (je_append (d := .int (pck (0 : Int) sc t lot).1) (ds := row.map .int) (pe_bm PySem.F.plainAttrs_list PySem.F.slot_list_append PySem.F.type_list_append mt_append pe_w pa_w) (vr 7) ⟨_, st3_c⟩ (a1 (JE.is2 (je_call (ok_pick T) (hr.mono (by decide)) (a3 (vr 0) (vr 1) (vr 4)) (pick_of (f := PyData.int) (d := (0 : Int)) (l := lot) (st3_a hpq hpl) hsc (.inr rfl) hLot.ne (by omega))) rfl (st3_ua hpq hpl))) st3_c ?_) (js_nil ⟨(pck (0 : Int) sc t lot).2, row ++ [(pck (0 : Int) sc t lot).1], _, ?_, ?_, ?_, rfl⟩)
    · rw [List.length_map, sizeLine_eq]; omega
    · rw [st3_uc, List.map_append]; rfl
    · rw [List.length_append, List.length_singleton, hrl]
    · intro x hx
      rcases List.mem_append.mp hx with z | z
      · exact hrow x z
      · rw [List.mem_singleton.mp z]; exact pck_mem hLot.ne
  rintro G' S2 ⟨t, row, g8, rfl, hrl, hrow, rfl⟩
  rw [rangeD_len] at hrl
  have hrl2 : row.length ≤ 2 := by omega
  refine js_frz (i := 7) (p := l) (ds := row.map .int) rfl st3_c ?_
  rw [show sdel (St3 S' p q l (.lst (tnD t)) (.dinv (KB e lot ms [])) (.lst (row.map .int))) l = sset (sset S' p (.lst (tnD t))) q (.dinv (KB e lot ms [])) from sdel_sset (hlS t)]
  have hSq : sset (sset S' p (.lst (tnD t))) q (.dinv (KB e lot ms [])) q = some (.dinv (KB e lot ms [])) := sset_same
  have hsub : SubS S' (sset (sset S' p (.lst (tnD t))) q (.dinv (KB e lot ms []))) := SubS.set2 hq0 (SubS.set hp)
  generalize sset (sset S' p (.lst (tnD t))) q (.dinv (KB e lot ms [])) = S4 at hSq hsub ⊢
  clear hrl
  refine js_for (fun i G S => ∃ (row : List Int) (g8 g9 g10 g11 g12 g13 g14 : Option Wv), S = S4 ∧ row.length ≤ 2 + i ∧ (∀ x ∈ row, x ∈ lot) ∧ G = [some xs, some (.o p), some (.d (fD 2 e)), some (.d (msD ms)), some (.d (lotD lot)), some (.o q), some (.d (pD hd)), some (.d (rowD row)), g8, g9, g10, g11, g12, g13, g14, none]) PassesOwn.never rfl
    (ji_range1 (pi_range1 rfl T.b_range pa_w) (a1 je_int) (by decide) (by decide)) ⟨row, g8, none, none, none, none, none, none, rfl, by omega, hrow, rfl⟩ (fun _ _ _ _ => trivial) ?_ fun G' S2 ⟨row, g8, g9, g10, g11, g12, g13, g14, e1, _, _, e2⟩ => by subst e1 e2; exact js_ret je_bl ⟨.refl _, hsub⟩
  clear hrow hrl2 row g8
  rintro i d G' S2 hd' ⟨row, g8, g9, g10, g11, g12, g13, g14, rfl, hrl, hrow, rfl⟩
  have hi5 : i < 5 := (rangeD_get hd').1
  have hn : ∀ x ∈ row, Num 2 e x := fun x hx => hLot.num x (hrow x hx)
  have hmh := hM.mach hd hid
  refine ⟨[8], _, jg_name (i := 8) sc_law.nd rfl, ?_⟩
  refine js_set (i := 9) sc_law.nd rfl (je_call (ok_totals T) (hr.mono (by decide)) (a3 (vr 2) (vr 6) (vr 7)) ⟨e, hd, row, rfl, he2, hmh, by omega, hn, rfl, rfl⟩) ?_
  have hso := beh_ok he2 hM hn hid
  refine js_set (i := 10) sc_law.nd rfl (je_call (ok_lstate T) (hr.mono (by decide)) (ja_cons (vr 2) (a3 (vr 3) (vr 7) (vr 9))) ⟨e, ms, row, tolF e hd row, rfl, he2, hM.len, hM.mach, by omega, hn, rfl, rfl⟩) ?_
  obtain ⟨b, hb⟩ := best_ex e lot (behF e ms row (tolF e hd row))
  have hbest : rBest [.d (fD 2 e), .d (msD ms), .d (lotD lot), .d (rowD row), .d (.list ((tolF e hd row).map oI))] S2 (.d (oI b)) S2 := ⟨e, ms, lot, row, hd, b, rfl, he2, hM, hid, hLot, by omega, hrow, hb, rfl, rfl⟩
  generalize hsE : behF e ms row (tolF e hd row) = s at hso hb ⊢
  have hbl : ∀ x, b = some x → x ∈ lot := fun x hx => by
    rcases hb with ⟨h, _⟩ | ⟨n, ix, y, _, hy, h, _⟩
    · rw [h] at hx; cases hx
    · rw [h] at hx; cases hx; exact List.mem_of_getElem? hy
  obtain ⟨dR, hdR⟩ : ∃ d : PyData, (∃ n : Nat, n ≤ 4 ∧ Least e lot n s ∧ d = .int (n : Int)) ∨ ((∀ n, n ≤ 4 → ¬ Wn e lot n s) ∧ d = .none) := by
    by_cases c : Wn e lot 4 s
    · obtain ⟨k, h1, h2⟩ := least_ex c
      exact ⟨_, .inl ⟨k, h1, h2, rfl⟩⟩
    · exact ⟨_, .inr ⟨fun n hn z => c (z.le hn), rfl⟩⟩
  refine js_tupX 2 (jax_cons (je_call (ok_lrank T) (hr.mono (by decide)) (ja_cons (vr 2) (ja_cons (vr 4) (a3 (vr 10) je_int (vr 5)))) ⟨e, ms, lot, s, q, dR, rfl, he2, hm, hL, hso, hSq, hdR, rfl, rfl⟩) (jax_cons (je_call (ok_best T) (hr.mono (by decide)) (ja_cons (vr 2) (ja_cons (vr 3) (a3 (vr 4) (vr 7) (vr 9)))) hbest) (jax_nil ⟨rfl, _, _, jgs_cons (jg_name (i := 11) sc_law.nd rfl) (jgs_cons (jg_name (i := 12) sc_law.nd rfl) jgs_nil), ?_⟩)))
  rcases hdR with ⟨n, hn4, hle, rfl⟩ | ⟨hall, rfl⟩
  · refine js_no (jt_cmp op_isN (vr 11) je_non rj_isN) ?_
    cases n with
    | zero =>
      have hbn : b = none := by
        rcases hb with ⟨h, _⟩ | ⟨n, ix, y, h, _⟩
        · exact h
        · exact absurd (least_uniq hle h) (by omega)
      subst hbn
      exact js_ifT (jt_cmp op_eq (vr 11) je_int (JRis rj_eqI (decide_eq_true rfl))) (js_ret (je_cmp op_isN (vr 12) je_non rj_isN) ⟨.refl _, hsub⟩)
    | succ n =>
      obtain ⟨ix, x, hx, rfl, hgo, hfirst⟩ : ∃ (ix : Nat) (x : Int), lot[ix]? = some x ∧ b = some x ∧ Goes e lot n s x ∧ ∀ (j : Nat) (y : Int), j < ix → lot[j]? = some y → ¬ Goes e lot n s y := by
        rcases hb with ⟨_, h⟩ | ⟨m, ix, x, h1, h2, h3, h4, h5⟩
        · exact absurd hle (h n)
        · have : m = n := by have := least_uniq h1 hle; omega
          subst this
          exact ⟨ix, x, h2, h3, h4, h5⟩
      have hgb : ∀ y, (grpF e s y).all (wnB e lot n) = true ↔ Goes e lot n s y := fun y => by
        rw [List.all_eq_true]
        exact ⟨fun h g hg => wnB_iff.mp (h g hg), fun h g hg => wnB_iff.mpr (h g hg)⟩
      have hfind : lot.find? (fun y => (grpF e s y).all (wnB e lot n)) = some x := find_first hx ((hgb x).mpr hgo) fun j y hj hy => by
        cases c : (grpF e s y).all (wnB e lot n) with
        | false => rfl
        | true => exact absurd ((hgb y).mp c) (hfirst j y hj hy)
      refine js_no (jt_cmp op_eq (vr 11) je_int (JRis (k' := false) rj_eqI (decide_eq_false (by omega)))) ?_
      refine js_set (i := 13) (w := .d (oI none)) sc_law.nd rfl je_non ?_
      refine js_for (fun i G S => S = S2 ∧ ∃ g14, G = [some xs, some (.o p), some (.d (fD 2 e)), some (.d (msD ms)), some (.d (lotD lot)), some (.o q), some (.d (pD hd)), some (.d (rowD row)), some (.d d), some (.d (.list ((tolF e hd row).map oI))), some (.d (stD s)), some (.d (.int ((n + 1 : Nat) : Int))), some (.d (oI (some x))), some (.d (oI ((lot.reverse.take i).reverse.find? fun y => (grpF e s y).all (wnB e lot n)))), g14, none]) PassesOwn.never rfl (ji_tup (je_revT (vr 4))) ⟨rfl, g14, rfl⟩ (fun _ _ _ _ => trivial) ?_ ?_
      · rintro j d2 G' S3 hd2 ⟨rfl, g14, rfl⟩
        rw [← List.map_reverse, List.getElem?_map] at hd2
        obtain ⟨y, hy, rfl⟩ := Option.map_eq_some_iff.mp hd2
        have hyl : y ∈ lot := List.mem_reverse.mp (List.mem_of_getElem? hy)
        have hyn := hL.num y hyl
        have hg3 : (grpF e s y).length ≤ 3 := Nat.le_trans grp_len (hso.len hm)
        have htk : (lot.reverse.take (j + 1)).reverse = y :: (lot.reverse.take j).reverse := by
          rw [List.take_succ, hy, List.reverse_append]
          rfl
        refine ⟨[14], _, jg_name (i := 14) sc_law.nd rfl, ?_⟩
        refine js_if (k := (grpF e s y).all (wnB e lot n)) (jt_val (JE.is (je_all (bs := (grpF e s y).map (wnB e lot n)) T.b_all (JE.frz (jn_map [("_law_one", 15)] sc_law.nd (blkOk_by (N := n_law) (sc := defScope s_law) (by decide +kernel)) (ji_list (ds := (grpF e s y).map stD) (je_call (ok_lgroups T) (hr.mono (by decide)) (a3 (vr 2) (vr 10) (vr 14)) ⟨e, ms, s, y, rfl, he2, hm, hso, hyn, rfl, rfl⟩)) (by simp) (by rw [List.length_map, sizeLine_eq]; omega) trivial fun k d3 hd3 => ?_))) (by rw [List.all_map]; rfl))) (fun hk3 => ?_) fun hk3 => js_nil (js_nil ⟨rfl, some (.d (.int y)), ?_⟩)
        · rw [List.getElem?_map] at hd3
          obtain ⟨g, hg, rfl⟩ := Option.map_eq_some_iff.mp hd3
          have hgo := grp_ok he2 hm hso hyn (List.mem_of_getElem? hg)
          refine ⟨[15], _, .bool (wnB e lot n g), by decide, fun s2 H2 C cl fp => jg_name (i := 15) sc_law.nd rfl, fun s2 H2 C cl fp => je_call (ok_within T n) (hr.mono (by omega)) (ja_cons (vr 2) (ja_cons (vr 4) (a3 (vr 15) (JE.is (r' := .d (.int (n : Int))) (je_op op_sub (vr 11) je_int rj_sub) (by rw [show ((n + 1 : Nat) : Int) - 1 = (n : Int) by omega])) (vr 5)))) ⟨e, ms, lot, g, q, [], rfl, he2, hm, hL, hgo, by omega, hSq, fun p hp => (by cases hp), rfl, rfl⟩, ?_⟩
          rw [List.map_map, List.getElem?_map, hg]
          rfl
        · refine js_set (i := 13) (w := .d (oI (some y))) sc_law.nd rfl (vr 14) (js_nil (js_nil ⟨rfl, some (.d (.int y)), ?_⟩))
          rw [htk, List.find?_cons, hk3]
          rfl
        · rw [htk, List.find?_cons, hk3]
          rfl
      · rintro G' S3 ⟨rfl, g14, rfl⟩
        rw [List.length_reverse, List.length_map, show lot.length = lot.reverse.length from (List.length_reverse).symm, List.take_length, List.reverse_reverse, hfind]
        refine js_no (jt_cmp op_ne (vr 12) (vr 13) (JRis (k' := false) (rj_neO (some x) (some x)) (by rw [decide_eq_true rfl]; rfl))) ?_
        refine js_set (i := 7) (w := .d (rowD (row ++ [x]))) sc_law.nd rfl (JE.is (JE.frz (jn_op op_catR (vr 7) (JE.frz (jn_lst (ds := [.int x]) (a1 (vr 12)))) (rn_cat .d .d (by rw [List.length_map, List.length_singleton, sizeLine_eq]; omega)))) (congrArg (fun l => Wv.d (.list l)) (map_snoc PyData.int row x))) (js_nil ⟨row ++ [x], _, _, _, _, _, _, _, rfl, by rw [List.length_append, List.length_singleton]; omega, fun z hz => ?_, rfl⟩)
        rcases List.mem_append.mp hz with h | h
        · exact hrow z h
        · rw [List.mem_singleton.mp h]; exact List.mem_of_getElem? hx
  · refine js_ifT (jt_cmp op_isN (vr 11) je_non rj_isN) ?_
    cases b with
    | none => exact js_ret (je_or (k := true) (je_cmp op_isN (vr 12) je_non rj_isN) (fun _ => rfl) fun h => absurd h (by decide)) ⟨.refl _, hsub⟩
    | some x => exact js_ret (je_or (k := false) (je_cmp op_isN (vr 12) je_non rj_isN) (fun h => absurd h (by decide)) fun _ => je_one (je_cmp op_in_seq (vr 12) (vr 4) (JRis (rj_inI lot) (decide_eq_true (hbl x rfl))))) ⟨.refl _, hsub⟩
end
end J

-- JZ0
set_option Elab.async false
set_option linter.all false
set_option maxRecDepth 100000
set_option maxHeartbeats 4000000
/-! The table of defs; the end. -/
namespace J
open PySem PySem.Spec PyProof.Rows L2
section
variable {K : PySem.W.Frag} {h : Heap} {mg : Str → Option Value}
def fu_mk {x : Str} {st : Stmt} {ps : List Str} {f : Addr} {oc : Value} {od an : Option Addr} {osl : Array (Option Value)} {kV doc pm cdv ct : Value} (X : K.In h) (G : h.Ns mainGlobals mg)
    (b : ∀ (kV doc pm : Value) (an : Option Addr) (cdv ct : Value) (us : List Value), us.length = ps.length → bindArgs (PySem.W.fnOf x x (defArgs st) (defBody st) (defScope st) .none kV doc pm an cdv ct) ⟨us, []⟩ = pure (ps.zip us))
    (a : PySem.W.nsIn K mainGlobals x = some (some (.ref f))) (l : K.lookup f = some ⟨oc, od, .func (PySem.W.fnOf x x (defArgs st) (defBody st) (defScope st) .none kV doc pm an cdv ct), osl⟩) (c : PySem.W.codeIn K cdv x = true) (k : PySem.W.keepIn K (.ref f) = true) : Fu K mg x st ps :=
  ⟨f, _, fun_mk l c k, PySem.W.mg_of X G a, (fun_mk l c k).binds b⟩
theorem fu_step {Q : Prop} {x : Str} {st : Stmt} {ps : List Str} {f : Addr} {oc : Value} {od an : Option Addr} {osl : Array (Option Value)} {kV doc pm cdv ct : Value} (X : K.In h) (G : h.Ns mainGlobals mg)
    (b : ∀ (kV doc pm : Value) (an : Option Addr) (cdv ct : Value) (us : List Value), us.length = ps.length → bindArgs (PySem.W.fnOf x x (defArgs st) (defBody st) (defScope st) .none kV doc pm an cdv ct) ⟨us, []⟩ = pure (ps.zip us))
    (a : PySem.W.nsIn K mainGlobals x = some (some (.ref f))) (l : K.lookup f = some ⟨oc, od, .func (PySem.W.fnOf x x (defArgs st) (defBody st) (defScope st) .none kV doc pm an cdv ct), osl⟩) (c : PySem.W.codeIn K cdv x = true) (k : PySem.W.keepIn K (.ref f) = true)
    (n : Fu K mg x st ps → Q) : Q := n (fu_mk X G b a l c k)
theorem none_step {Q : Prop} {x : Str} (X : K.In h) (G : h.Ns mainGlobals mg) (a : PySem.W.nsIn K mainGlobals x = some none) (n : mg x = none → Q) : Q := n (PySem.W.mg_none_of X G a)
theorem long_step {Q : Prop} (X : K.In h) (G : h.Ns mainGlobals mg) {t : _} (a : PySem.W.nsIn K mainGlobals "LONGEST" = some (some (.int 40 t))) (n : (∃ u, mg "LONGEST" = some u ∧ RelV (.int 40) u) → Q) : Q := n ⟨_, PySem.W.mg_of X G a, ⟨_, rfl⟩⟩
theorem dq_strs {B : Hp} : ∀ xs : List Str, DqAll K B (xs.map V.str) (xs.map PyData.str)
  | [] => .nil
  | x :: xs => .cons (.str x) (dq_strs xs)
theorem tup_step {Q : Prop} {x : Str} {xs : List Str} {f : Addr} {od : Option Addr} {its : Array Value} {m : Nat} {osl : Array (Option Value)} (X : K.In h) (G : h.Ns mainGlobals mg) (a : PySem.W.nsIn K mainGlobals x = some (some (.ref f)))
    (l : K.lookup f = some ⟨.type "tuple", od, .seq its m, osl⟩) (hz : its.size ≤ sizeLine) (he : Vals (xs.map V.str) its.toList) (n : (∃ v u, mg x = some u ∧ RelV v u ∧ ∀ B, Dq K B v (.tuple (xs.map PyData.str))) → Q) : Q :=
  n ⟨.ref f, _, PySem.W.mg_of X G a, rfl, fun B => .tup (.inr ⟨_, its, m, l, rfl, rfl, hz, he⟩) (dq_strs xs)⟩
theorem all_of {P : Program} {w : World} {fa : Addr} (T : Tab K mg) (hfa : mg "law" = some (.ref fa)) :
    ∃ fd : FuncData, (∀ (s : Shared) (v : Value), BindsTo s fd ⟨[v], []⟩ [("_law_script", v)]) ∧ ∀ base : Heap, K.In base → base.Ns mainGlobals mg → FnOk P w K mg base CX0 20 fa fd ["_law_script"] (spJ ⟨P, w, K⟩ (rLaw K)) := by
  have e := hfa.symm.trans T.law.m
  cases e
  refine ⟨T.law.fd, fun s v => ?_, fun base _ _ => ok_law T⟩
  obtain ⟨oc, od, kV, doc, pm, an, cdv, ct, osl, e, l, c⟩ := T.law.F.ex
  rw [e]
  exact .of_eq rfl
theorem sp_start {P : Program} {w : World} {H : Hp} {a : Addr} {ns : List Int} (hl : ns.length ≤ 63) (hS : SqL K H a (ns.map V.int)) (E : XK) : spJ ⟨P, w, K⟩ (rLaw K) [.ref a] H (fun v _ => v = .bl true) E := by
  have good : Good ⟨P, w, K⟩ H (fun _ => none) H := ⟨fun _ _ h => h, fun _ _ h => nomatch h⟩
  rcases hS with h | h
  · exact ⟨H, fun _ => none, [.d (scD ns)], .d (.bool true), fun _ => none, good, .cons (show Dq K H (.ref a) (scD ns) from .lst h (dq_ints ns)) .nil, ⟨_, ns, rfl, ⟨.inl rfl, hl⟩, rfl, rfl⟩, fun v H' ⟨B', _, _, r⟩ => by cases r; rfl⟩
  · exact ⟨H, fun _ => none, [.v (.ref a)], .d (.bool true), fun _ => none, good, .cons (show (V.ref a) = .ref a from rfl) .nil, ⟨_, ns, rfl, ⟨.inr ⟨a, rfl, h⟩, hl⟩, rfl, rfl⟩, fun v H' ⟨B', _, _, r⟩ => by cases r; rfl⟩
theorem walk {l : PySem.W.OpenLaw} {q : Program} {loose : List Str} {XP : (Str → Option Value) → Heap → Prop} {YP : World → Heap → Prop} {d : DefRec} {K : Params → PySem.W.Frag} (hn : l.most = some 63) (hdf : d.params.defaults = []) (hnm : d.name = "law")
    (hY : ∀ (w : World) (h : Heap), YP w h → (K w.params).In h)
    (F : ∀ (w : World) (mg : Str → Option Value) (h : Heap), (K w.params).In h → h.Ns mainGlobals mg → ∀ Q : Prop, (Tab (K w.params) mg → Q) → Q) :
    PySem.W.WalkO q loose XP YP l.row.toRowW d [] (fun f vs => PySem.call f vs) :=
  L2.walk_of (n := 63) (k := 20) (x := "_law_script") (CX := fun _ => CX0) (sp := fun w => spJ ⟨l.prog, w, K w.params⟩ (rLaw (K w.params))) hn (by decide) hdf ⟨rfl, by decide, by decide⟩ hY (fun w mg fa h X G hfa => F w mg h X G _ fun T => all_of T (by rw [← hnm]; exact hfa)) (fun _ _ a ns hl _ hS => sp_start hl hS _) fun _ _ _ _ _ z => z
end
end J

-- JZ
set_option Elab.async false
set_option linter.all false
open PySem PySem.W PyProof.Rows J in
set_option maxRecDepth 100000 in
set_option maxHeartbeats 0 in
theorem PySem.Challenge.cw_driftsums_k25_whole_best_numbers_holds : PySem.Challenge.rw_driftsums_k25_whole_best_numbers.Holds := by
  w_on; o_law; k_head; (case hw => w_witness2)
  k_fill
  refine J.walk (l := PySem.Challenge.rw_driftsums_k25_whole_best_numbers) rfl rfl rfl (fun w h Y => PySem.W.kIn_of Y) ?F
  case F =>
    intro w mg h KX G Q hQ
    refine' J.fu_step (x := "is_int") (st := J.s_is_int) (ps := J.p_is_int) KX G (fun _ _ _ _ _ _ us hl => match us, hl with | [_, _, _], _ => rfl) ?a_is_int ?l_is_int ?c_is_int ?k_is_int ?_
    (case a_is_int => k_is)
    (case l_is_int => k_is)
    (case c_is_int => k_is)
    (case k_is_int => k_is)
    intro u_is_int
    refine' J.fu_step (x := "is_format") (st := J.s_is_format) (ps := J.p_is_format) KX G (fun _ _ _ _ _ _ us hl => match us, hl with | [_], _ => rfl) ?a_is_format ?l_is_format ?c_is_format ?k_is_format ?_
    (case a_is_format => k_is)
    (case l_is_format => k_is)
    (case c_is_format => k_is)
    (case k_is_format => k_is)
    intro u_is_format
    refine' J.fu_step (x := "need_format") (st := J.s_need_format) (ps := J.p_need_format) KX G (fun _ _ _ _ _ _ us hl => match us, hl with | [_], _ => rfl) ?a_need_format ?l_need_format ?c_need_format ?k_need_format ?_
    (case a_need_format => k_is)
    (case l_need_format => k_is)
    (case c_need_format => k_is)
    (case k_need_format => k_is)
    intro u_need_format
    refine' J.fu_step (x := "doubled") (st := J.s_doubled) (ps := J.p_doubled) KX G (fun _ _ _ _ _ _ us hl => match us, hl with | [_, _], _ => rfl) ?a_doubled ?l_doubled ?c_doubled ?k_doubled ?_
    (case a_doubled => k_is)
    (case l_doubled => k_is)
    (case c_doubled => k_is)
    (case k_doubled => k_is)
    intro u_doubled
    refine' J.fu_step (x := "greatest_of") (st := J.s_greatest_of) (ps := J.p_greatest_of) KX G (fun _ _ _ _ _ _ us hl => match us, hl with | [_], _ => rfl) ?a_greatest_of ?l_greatest_of ?c_greatest_of ?k_greatest_of ?_
    (case a_greatest_of => k_is)
    (case l_greatest_of => k_is)
    (case c_greatest_of => k_is)
    (case k_greatest_of => k_is)
    intro u_greatest_of
    refine' J.fu_step (x := "distance") (st := J.s_distance) (ps := J.p_distance) KX G (fun _ _ _ _ _ _ us hl => match us, hl with | [_, _], _ => rfl) ?a_distance ?l_distance ?c_distance ?k_distance ?_
    (case a_distance => k_is)
    (case l_distance => k_is)
    (case c_distance => k_is)
    (case k_distance => k_is)
    intro u_distance
    refine' J.fu_step (x := "fits") (st := J.s_fits) (ps := J.p_fits) KX G (fun _ _ _ _ _ _ us hl => match us, hl with | [_, _], _ => rfl) ?a_fits ?l_fits ?c_fits ?k_fits ?_
    (case a_fits => k_is)
    (case l_fits => k_is)
    (case c_fits => k_is)
    (case k_fits => k_is)
    intro u_fits
    refine' J.fu_step (x := "is_number_of") (st := J.s_is_number_of) (ps := J.p_is_number_of) KX G (fun _ _ _ _ _ _ us hl => match us, hl with | [_, _], _ => rfl) ?a_is_number_of ?l_is_number_of ?c_is_number_of ?k_is_number_of ?_
    (case a_is_number_of => k_is)
    (case l_is_number_of => k_is)
    (case c_is_number_of => k_is)
    (case k_is_number_of => k_is)
    intro u_is_number_of
    refine' J.fu_step (x := "sides") (st := J.s_sides) (ps := J.p_sides) KX G (fun _ _ _ _ _ _ us hl => match us, hl with | [_, _], _ => rfl) ?a_sides ?l_sides ?c_sides ?k_sides ?_
    (case a_sides => k_is)
    (case l_sides => k_is)
    (case c_sides => k_is)
    (case k_sides => k_is)
    intro u_sides
    refine' J.fu_step (x := "chosen") (st := J.s_chosen) (ps := J.p_chosen) KX G (fun _ _ _ _ _ _ us hl => match us, hl with | [_, _, _], _ => rfl) ?a_chosen ?l_chosen ?c_chosen ?k_chosen ?_
    (case a_chosen => k_is)
    (case l_chosen => k_is)
    (case c_chosen => k_is)
    (case k_chosen => k_is)
    intro u_chosen
    refine' J.fu_step (x := "round_to") (st := J.s_round_to) (ps := J.p_round_to) KX G (fun _ _ _ _ _ _ us hl => match us, hl with | [_, _, _], _ => rfl) ?a_round_to ?l_round_to ?c_round_to ?k_round_to ?_
    (case a_round_to => k_is)
    (case l_round_to => k_is)
    (case c_round_to => k_is)
    (case k_round_to => k_is)
    intro u_round_to
    refine' J.fu_step (x := "is_machine") (st := J.s_is_machine) (ps := J.p_is_machine) KX G (fun _ _ _ _ _ _ us hl => match us, hl with | [_], _ => rfl) ?a_is_machine ?l_is_machine ?c_is_machine ?k_is_machine ?_
    (case a_is_machine => k_is)
    (case l_is_machine => k_is)
    (case c_is_machine => k_is)
    (case k_is_machine => k_is)
    intro u_is_machine
    refine' J.fu_step (x := "need_machine") (st := J.s_need_machine) (ps := J.p_need_machine) KX G (fun _ _ _ _ _ _ us hl => match us, hl with | [_, _], _ => rfl) ?a_need_machine ?l_need_machine ?c_need_machine ?k_need_machine ?_
    (case a_need_machine => k_is)
    (case l_need_machine => k_is)
    (case c_need_machine => k_is)
    (case k_need_machine => k_is)
    intro u_need_machine
    refine' J.fu_step (x := "begun") (st := J.s_begun) (ps := J.p_begun) KX G (fun _ _ _ _ _ _ us hl => match us, hl with | [_], _ => rfl) ?a_begun ?l_begun ?c_begun ?k_begun ?_
    (case a_begun => k_is)
    (case l_begun => k_is)
    (case c_begun => k_is)
    (case k_begun => k_is)
    intro u_begun
    refine' J.fu_step (x := "first_place") (st := J.s_first_place) (ps := J.p_first_place) KX G (fun _ _ _ _ _ _ us hl => match us, hl with | [_], _ => rfl) ?a_first_place ?l_first_place ?c_first_place ?k_first_place ?_
    (case a_first_place => k_is)
    (case l_first_place => k_is)
    (case c_first_place => k_is)
    (case k_first_place => k_is)
    intro u_first_place
    refine' J.fu_step (x := "wider") (st := J.s_wider) (ps := J.p_wider) KX G (fun _ _ _ _ _ _ us hl => match us, hl with | [_, _], _ => rfl) ?a_wider ?l_wider ?c_wider ?k_wider ?_
    (case a_wider => k_is)
    (case l_wider => k_is)
    (case c_wider => k_is)
    (case k_wider => k_is)
    intro u_wider
    refine' J.fu_step (x := "plus") (st := J.s_plus) (ps := J.p_plus) KX G (fun _ _ _ _ _ _ us hl => match us, hl with | [_, _, _, _], _ => rfl) ?a_plus ?l_plus ?c_plus ?k_plus ?_
    (case a_plus => k_is)
    (case l_plus => k_is)
    (case c_plus => k_is)
    (case k_plus => k_is)
    intro u_plus
    refine' J.fu_step (x := "less") (st := J.s_less) (ps := J.p_less) KX G (fun _ _ _ _ _ _ us hl => match us, hl with | [_], _ => rfl) ?a_less ?l_less ?c_less ?k_less ?_
    (case a_less => k_is)
    (case l_less => k_is)
    (case c_less => k_is)
    (case k_less => k_is)
    intro u_less
    refine' J.fu_step (x := "kept_step") (st := J.s_kept_step) (ps := J.p_kept_step) KX G (fun _ _ _ _ _ _ us hl => match us, hl with | [_, _, _, _], _ => rfl) ?a_kept_step ?l_kept_step ?c_kept_step ?k_kept_step ?_
    (case a_kept_step => k_is)
    (case l_kept_step => k_is)
    (case c_kept_step => k_is)
    (case k_kept_step => k_is)
    intro u_kept_step
    refine' J.fu_step (x := "beside_step") (st := J.s_beside_step) (ps := J.p_beside_step) KX G (fun _ _ _ _ _ _ us hl => match us, hl with | [_, _, _, _], _ => rfl) ?a_beside_step ?l_beside_step ?c_beside_step ?k_beside_step ?_
    (case a_beside_step => k_is)
    (case l_beside_step => k_is)
    (case c_beside_step => k_is)
    (case k_beside_step => k_is)
    intro u_beside_step
    refine' J.fu_step (x := "total_told") (st := J.s_total_told) (ps := J.p_total_told) KX G (fun _ _ _ _ _ _ us hl => match us, hl with | [_, _, _], _ => rfl) ?a_total_told ?l_total_told ?c_total_told ?k_total_told ?_
    (case a_total_told => k_is)
    (case l_total_told => k_is)
    (case c_total_told => k_is)
    (case k_total_told => k_is)
    intro u_total_told
    refine' J.fu_step (x := "step") (st := J.s_step) (ps := J.p_step) KX G (fun _ _ _ _ _ _ us hl => match us, hl with | [_, _, _, _], _ => rfl) ?a_step ?l_step ?c_step ?k_step ?_
    (case a_step => k_is)
    (case l_step => k_is)
    (case c_step => k_is)
    (case k_step => k_is)
    intro u_step
    refine' J.fu_step (x := "is_place") (st := J.s_is_place) (ps := J.p_is_place) KX G (fun _ _ _ _ _ _ us hl => match us, hl with | [_, _, _], _ => rfl) ?a_is_place ?l_is_place ?c_is_place ?k_is_place ?_
    (case a_is_place => k_is)
    (case l_is_place => k_is)
    (case c_is_place => k_is)
    (case k_is_place => k_is)
    intro u_is_place
    refine' J.fu_step (x := "need_place") (st := J.s_need_place) (ps := J.p_need_place) KX G (fun _ _ _ _ _ _ us hl => match us, hl with | [_, _, _], _ => rfl) ?a_need_place ?l_need_place ?c_need_place ?k_need_place ?_
    (case a_need_place => k_is)
    (case l_need_place => k_is)
    (case c_need_place => k_is)
    (case k_need_place => k_is)
    intro u_need_place
    refine' J.fu_step (x := "next_place") (st := J.s_next_place) (ps := J.p_next_place) KX G (fun _ _ _ _ _ _ us hl => match us, hl with | [_, _, _, _], _ => rfl) ?a_next_place ?l_next_place ?c_next_place ?k_next_place ?_
    (case a_next_place => k_is)
    (case l_next_place => k_is)
    (case c_next_place => k_is)
    (case k_next_place => k_is)
    intro u_next_place
    refine' J.fu_step (x := "total_at") (st := J.s_total_at) (ps := J.p_total_at) KX G (fun _ _ _ _ _ _ us hl => match us, hl with | [_, _, _], _ => rfl) ?a_total_at ?l_total_at ?c_total_at ?k_total_at ?_
    (case a_total_at => k_is)
    (case l_total_at => k_is)
    (case c_total_at => k_is)
    (case k_total_at => k_is)
    intro u_total_at
    refine' J.fu_step (x := "is_row_of") (st := J.s_is_row_of) (ps := J.p_is_row_of) KX G (fun _ _ _ _ _ _ us hl => match us, hl with | [_, _], _ => rfl) ?a_is_row_of ?l_is_row_of ?c_is_row_of ?k_is_row_of ?_
    (case a_is_row_of => k_is)
    (case l_is_row_of => k_is)
    (case c_is_row_of => k_is)
    (case k_is_row_of => k_is)
    intro u_is_row_of
    refine' J.fu_step (x := "run") (st := J.s_run) (ps := J.p_run) KX G (fun _ _ _ _ _ _ us hl => match us, hl with | [_, _, _], _ => rfl) ?a_run ?l_run ?c_run ?k_run ?_
    (case a_run => k_is)
    (case l_run => k_is)
    (case c_run => k_is)
    (case k_run => k_is)
    intro u_run
    refine' J.fu_step (x := "totals_of") (st := J.s_totals_of) (ps := J.p_totals_of) KX G (fun _ _ _ _ _ _ us hl => match us, hl with | [_, _, _], _ => rfl) ?a_totals_of ?l_totals_of ?c_totals_of ?k_totals_of ?_
    (case a_totals_of => k_is)
    (case l_totals_of => k_is)
    (case c_totals_of => k_is)
    (case k_totals_of => k_is)
    intro u_totals_of
    refine' J.fu_step (x := "need_row") (st := J.s_need_row) (ps := J.p_need_row) KX G (fun _ _ _ _ _ _ us hl => match us, hl with | [_, _, _], _ => rfl) ?a_need_row ?l_need_row ?c_need_row ?k_need_row ?_
    (case a_need_row => k_is)
    (case l_need_row => k_is)
    (case c_need_row => k_is)
    (case k_need_row => k_is)
    intro u_need_row
    refine' J.fu_step (x := "totals") (st := J.s_totals) (ps := J.p_totals) KX G (fun _ _ _ _ _ _ us hl => match us, hl with | [_, _, _], _ => rfl) ?a_totals ?l_totals ?c_totals ?k_totals ?_
    (case a_totals => k_is)
    (case l_totals => k_is)
    (case c_totals => k_is)
    (case k_totals => k_is)
    intro u_totals
    refine' J.fu_step (x := "is_lot_of") (st := J.s_is_lot_of) (ps := J.p_is_lot_of) KX G (fun _ _ _ _ _ _ us hl => match us, hl with | [_, _], _ => rfl) ?a_is_lot_of ?l_is_lot_of ?c_is_lot_of ?k_is_lot_of ?_
    (case a_is_lot_of => k_is)
    (case l_is_lot_of => k_is)
    (case c_is_lot_of => k_is)
    (case k_is_lot_of => k_is)
    intro u_is_lot_of
    refine' J.fu_step (x := "need_lot") (st := J.s_need_lot) (ps := J.p_need_lot) KX G (fun _ _ _ _ _ _ us hl => match us, hl with | [_, _], _ => rfl) ?a_need_lot ?l_need_lot ?c_need_lot ?k_need_lot ?_
    (case a_need_lot => k_is)
    (case l_need_lot => k_is)
    (case c_need_lot => k_is)
    (case k_need_lot => k_is)
    intro u_need_lot
    refine' J.fu_step (x := "need_few") (st := J.s_need_few) (ps := J.p_need_few) KX G (fun _ _ _ _ _ _ us hl => match us, hl with | [_], _ => rfl) ?a_need_few ?l_need_few ?c_need_few ?k_need_few ?_
    (case a_need_few => k_is)
    (case l_need_few => k_is)
    (case c_need_few => k_is)
    (case k_need_few => k_is)
    intro u_need_few
    refine' J.fu_step (x := "after") (st := J.s_after) (ps := J.p_after) KX G (fun _ _ _ _ _ _ us hl => match us, hl with | [_, _, _, _], _ => rfl) ?a_after ?l_after ?c_after ?k_after ?_
    (case a_after => k_is)
    (case l_after => k_is)
    (case c_after => k_is)
    (case k_after => k_is)
    intro u_after
    refine' J.fu_step (x := "seen_total") (st := J.s_seen_total) (ps := J.p_seen_total) KX G (fun _ _ _ _ _ _ us hl => match us, hl with | [_, _, _], _ => rfl) ?a_seen_total ?l_seen_total ?c_seen_total ?k_seen_total ?_
    (case a_seen_total => k_is)
    (case l_seen_total => k_is)
    (case c_seen_total => k_is)
    (case k_seen_total => k_is)
    intro u_seen_total
    refine' J.fu_step (x := "parted") (st := J.s_parted) (ps := J.p_parted) KX G (fun _ _ _ _ _ _ us hl => match us, hl with | [_, _, _, _, _], _ => rfl) ?a_parted ?l_parted ?c_parted ?k_parted ?_
    (case a_parted => k_is)
    (case l_parted => k_is)
    (case c_parted => k_is)
    (case k_parted => k_is)
    intro u_parted
    refine' J.fu_step (x := "need_told") (st := J.s_need_told) (ps := J.p_need_told) KX G (fun _ _ _ _ _ _ us hl => match us, hl with | [_], _ => rfl) ?a_need_told ?l_need_told ?c_need_told ?k_need_told ?_
    (case a_need_told => k_is)
    (case l_need_told => k_is)
    (case c_need_told => k_is)
    (case k_need_told => k_is)
    intro u_need_told
    refine' J.fu_step (x := "is_found") (st := J.s_is_found) (ps := J.p_is_found) KX G (fun _ _ _ _ _ _ us hl => match us, hl with | [_, _, _], _ => rfl) ?a_is_found ?l_is_found ?c_is_found ?k_is_found ?_
    (case a_is_found => k_is)
    (case l_is_found => k_is)
    (case c_is_found => k_is)
    (case k_is_found => k_is)
    intro u_is_found
    refine' J.fu_step (x := "answers_at") (st := J.s_answers_at) (ps := J.p_answers_at) KX G (fun _ _ _ _ _ _ us hl => match us, hl with | [_, _, _], _ => rfl) ?a_answers_at ?l_answers_at ?c_answers_at ?k_answers_at ?_
    (case a_answers_at => k_is)
    (case l_answers_at => k_is)
    (case c_answers_at => k_is)
    (case k_answers_at => k_is)
    intro u_answers_at
    refine' J.fu_step (x := "ranks_of") (st := J.s_ranks_of) (ps := J.p_ranks_of) KX G (fun _ _ _ _ _ _ us hl => match us, hl with | [_, _, _], _ => rfl) ?a_ranks_of ?l_ranks_of ?c_ranks_of ?k_ranks_of ?_
    (case a_ranks_of => k_is)
    (case l_ranks_of => k_is)
    (case c_ranks_of => k_is)
    (case k_ranks_of => k_is)
    intro u_ranks_of
    refine' J.fu_step (x := "need_machines") (st := J.s_need_machines) (ps := J.p_need_machines) KX G (fun _ _ _ _ _ _ us hl => match us, hl with | [_, _], _ => rfl) ?a_need_machines ?l_need_machines ?c_need_machines ?k_need_machines ?_
    (case a_need_machines => k_is)
    (case l_need_machines => k_is)
    (case c_need_machines => k_is)
    (case k_need_machines => k_is)
    intro u_need_machines
    refine' J.fu_step (x := "state_behind") (st := J.s_state_behind) (ps := J.p_state_behind) KX G (fun _ _ _ _ _ _ us hl => match us, hl with | [_, _, _, _], _ => rfl) ?a_state_behind ?l_state_behind ?c_state_behind ?k_state_behind ?_
    (case a_state_behind => k_is)
    (case l_state_behind => k_is)
    (case c_state_behind => k_is)
    (case k_state_behind => k_is)
    intro u_state_behind
    refine' J.fu_step (x := "best_number") (st := J.s_best_number) (ps := J.p_best_number) KX G (fun _ _ _ _ _ _ us hl => match us, hl with | [_, _, _, _, _], _ => rfl) ?a_best_number ?l_best_number ?c_best_number ?k_best_number ?_
    (case a_best_number => k_is)
    (case l_best_number => k_is)
    (case c_best_number => k_is)
    (case k_best_number => k_is)
    intro u_best_number
    refine' J.fu_step (x := "_law_draw") (st := J.s_law_draw) (ps := J.p_law_draw) KX G (fun _ _ _ _ _ _ us hl => match us, hl with | [_, _, _], _ => rfl) ?a_law_draw ?l_law_draw ?c_law_draw ?k_law_draw ?_
    (case a_law_draw => k_is)
    (case l_law_draw => k_is)
    (case c_law_draw => k_is)
    (case k_law_draw => k_is)
    intro u_law_draw
    refine' J.fu_step (x := "_law_pick") (st := J.s_law_pick) (ps := J.p_law_pick) KX G (fun _ _ _ _ _ _ us hl => match us, hl with | [_, _, _], _ => rfl) ?a_law_pick ?l_law_pick ?c_law_pick ?k_law_pick ?_
    (case a_law_pick => k_is)
    (case l_law_pick => k_is)
    (case c_law_pick => k_is)
    (case k_law_pick => k_is)
    intro u_law_pick
    refine' J.fu_step (x := "_law_broad") (st := J.s_law_broad) (ps := J.p_law_broad) KX G (fun _ _ _ _ _ _ us hl => match us, hl with | [_, _], _ => rfl) ?a_law_broad ?l_law_broad ?c_law_broad ?k_law_broad ?_
    (case a_law_broad => k_is)
    (case l_law_broad => k_is)
    (case c_law_broad => k_is)
    (case k_law_broad => k_is)
    intro u_law_broad
    refine' J.fu_step (x := "_law_top") (st := J.s_law_top) (ps := J.p_law_top) KX G (fun _ _ _ _ _ _ us hl => match us, hl with | [_], _ => rfl) ?a_law_top ?l_law_top ?c_law_top ?k_law_top ?_
    (case a_law_top => k_is)
    (case l_law_top => k_is)
    (case c_law_top => k_is)
    (case k_law_top => k_is)
    intro u_law_top
    refine' J.fu_step (x := "_law_sides") (st := J.s_law_sides) (ps := J.p_law_sides) KX G (fun _ _ _ _ _ _ us hl => match us, hl with | [_, _], _ => rfl) ?a_law_sides ?l_law_sides ?c_law_sides ?k_law_sides ?_
    (case a_law_sides => k_is)
    (case l_law_sides => k_is)
    (case c_law_sides => k_is)
    (case k_law_sides => k_is)
    intro u_law_sides
    refine' J.fu_step (x := "_law_number") (st := J.s_law_number) (ps := J.p_law_number) KX G (fun _ _ _ _ _ _ us hl => match us, hl with | [_, _, _], _ => rfl) ?a_law_number ?l_law_number ?c_law_number ?k_law_number ?_
    (case a_law_number => k_is)
    (case l_law_number => k_is)
    (case c_law_number => k_is)
    (case k_law_number => k_is)
    intro u_law_number
    refine' J.fu_step (x := "_law_mode") (st := J.s_law_mode) (ps := J.p_law_mode) KX G (fun _ _ _ _ _ _ us hl => match us, hl with | [_, _], _ => rfl) ?a_law_mode ?l_law_mode ?c_law_mode ?k_law_mode ?_
    (case a_law_mode => k_is)
    (case l_law_mode => k_is)
    (case c_law_mode => k_is)
    (case k_law_mode => k_is)
    intro u_law_mode
    refine' J.fu_step (x := "_law_machine") (st := J.s_law_machine) (ps := J.p_law_machine) KX G (fun _ _ _ _ _ _ us hl => match us, hl with | [_, _], _ => rfl) ?a_law_machine ?l_law_machine ?c_law_machine ?k_law_machine ?_
    (case a_law_machine => k_is)
    (case l_law_machine => k_is)
    (case c_law_machine => k_is)
    (case k_law_machine => k_is)
    intro u_law_machine
    refine' J.fu_step (x := "_law_lot") (st := J.s_law_lot) (ps := J.p_law_lot) KX G (fun _ _ _ _ _ _ us hl => match us, hl with | [_, _, _, _], _ => rfl) ?a_law_lot ?l_law_lot ?c_law_lot ?k_law_lot ?_
    (case a_law_lot => k_is)
    (case l_law_lot => k_is)
    (case c_law_lot => k_is)
    (case k_law_lot => k_is)
    intro u_law_lot
    refine' J.fu_step (x := "_law_after") (st := J.s_law_after) (ps := J.p_law_after) KX G (fun _ _ _ _ _ _ us hl => match us, hl with | [_, _, _, _], _ => rfl) ?a_law_after ?l_law_after ?c_law_after ?k_law_after ?_
    (case a_law_after => k_is)
    (case l_law_after => k_is)
    (case c_law_after => k_is)
    (case k_law_after => k_is)
    intro u_law_after
    refine' J.fu_step (x := "_law_shown") (st := J.s_law_shown) (ps := J.p_law_shown) KX G (fun _ _ _ _ _ _ us hl => match us, hl with | [_, _, _], _ => rfl) ?a_law_shown ?l_law_shown ?c_law_shown ?k_law_shown ?_
    (case a_law_shown => k_is)
    (case l_law_shown => k_is)
    (case c_law_shown => k_is)
    (case k_law_shown => k_is)
    intro u_law_shown
    refine' J.fu_step (x := "_law_parted") (st := J.s_law_parted) (ps := J.p_law_parted) KX G (fun _ _ _ _ _ _ us hl => match us, hl with | [_, _, _, _, _], _ => rfl) ?a_law_parted ?l_law_parted ?c_law_parted ?k_law_parted ?_
    (case a_law_parted => k_is)
    (case l_law_parted => k_is)
    (case c_law_parted => k_is)
    (case k_law_parted => k_is)
    intro u_law_parted
    refine' J.fu_step (x := "_law_is_found") (st := J.s_law_is_found) (ps := J.p_law_is_found) KX G (fun _ _ _ _ _ _ us hl => match us, hl with | [_, _, _], _ => rfl) ?a_law_is_found ?l_law_is_found ?c_law_is_found ?k_law_is_found ?_
    (case a_law_is_found => k_is)
    (case l_law_is_found => k_is)
    (case c_law_is_found => k_is)
    (case k_law_is_found => k_is)
    intro u_law_is_found
    refine' J.fu_step (x := "_law_groups") (st := J.s_law_groups) (ps := J.p_law_groups) KX G (fun _ _ _ _ _ _ us hl => match us, hl with | [_, _, _], _ => rfl) ?a_law_groups ?l_law_groups ?c_law_groups ?k_law_groups ?_
    (case a_law_groups => k_is)
    (case l_law_groups => k_is)
    (case c_law_groups => k_is)
    (case k_law_groups => k_is)
    intro u_law_groups
    refine' J.fu_step (x := "_law_within") (st := J.s_law_within) (ps := J.p_law_within) KX G (fun _ _ _ _ _ _ us hl => match us, hl with | [_, _, _, _, _], _ => rfl) ?a_law_within ?l_law_within ?c_law_within ?k_law_within ?_
    (case a_law_within => k_is)
    (case l_law_within => k_is)
    (case c_law_within => k_is)
    (case k_law_within => k_is)
    intro u_law_within
    refine' J.fu_step (x := "_law_rank") (st := J.s_law_rank) (ps := J.p_law_rank) KX G (fun _ _ _ _ _ _ us hl => match us, hl with | [_, _, _, _, _], _ => rfl) ?a_law_rank ?l_law_rank ?c_law_rank ?k_law_rank ?_
    (case a_law_rank => k_is)
    (case l_law_rank => k_is)
    (case c_law_rank => k_is)
    (case k_law_rank => k_is)
    intro u_law_rank
    refine' J.fu_step (x := "_law_some") (st := J.s_law_some) (ps := J.p_law_some) KX G (fun _ _ _ _ _ _ us hl => match us, hl with | [_, _], _ => rfl) ?a_law_some ?l_law_some ?c_law_some ?k_law_some ?_
    (case a_law_some => k_is)
    (case l_law_some => k_is)
    (case c_law_some => k_is)
    (case k_law_some => k_is)
    intro u_law_some
    refine' J.fu_step (x := "_law_state") (st := J.s_law_state) (ps := J.p_law_state) KX G (fun _ _ _ _ _ _ us hl => match us, hl with | [_, _, _, _], _ => rfl) ?a_law_state ?l_law_state ?c_law_state ?k_law_state ?_
    (case a_law_state => k_is)
    (case l_law_state => k_is)
    (case c_law_state => k_is)
    (case k_law_state => k_is)
    intro u_law_state
    refine' J.fu_step (x := "law") (st := J.s_law) (ps := J.p_law) KX G (fun _ _ _ _ _ _ us hl => match us, hl with | [_], _ => rfl) ?a_law ?l_law ?c_law ?k_law ?_
    (case a_law => k_is)
    (case l_law => k_is)
    (case c_law => k_is)
    (case k_law => k_is)
    intro u_law
    refine' J.none_step (x := "isinstance") KX G ?a_b_isinstance ?_
    (case a_b_isinstance => k_is)
    intro u_b_isinstance
    refine' J.none_step (x := "len") KX G ?a_b_len ?_
    (case a_b_len => k_is)
    intro u_b_len
    refine' J.none_step (x := "all") KX G ?a_b_all ?_
    (case a_b_all => k_is)
    intro u_b_all
    refine' J.none_step (x := "any") KX G ?a_b_any ?_
    (case a_b_any => k_is)
    intro u_b_any
    refine' J.none_step (x := "abs") KX G ?a_b_abs ?_
    (case a_b_abs => k_is)
    intro u_b_abs
    refine' J.none_step (x := "range") KX G ?a_b_range ?_
    (case a_b_range => k_is)
    intro u_b_range
    refine' J.none_step (x := "zip") KX G ?a_b_zip ?_
    (case a_b_zip => k_is)
    intro u_b_zip
    refine' J.none_step (x := "sorted") KX G ?a_b_sorted ?_
    (case a_b_sorted => k_is)
    intro u_b_sorted
    refine' J.none_step (x := "set") KX G ?a_b_set ?_
    (case a_b_set => k_is)
    intro u_b_set
    refine' J.none_step (x := "tuple") KX G ?a_b_tuple ?_
    (case a_b_tuple => k_is)
    intro u_b_tuple
    refine' J.none_step (x := "int") KX G ?a_b_int ?_
    (case a_b_int => k_is)
    intro u_b_int
    refine' J.none_step (x := "bool") KX G ?a_b_bool ?_
    (case a_b_bool => k_is)
    intro u_b_bool
    refine' J.none_step (x := "str") KX G ?a_b_str ?_
    (case a_b_str => k_is)
    intro u_b_str
    refine' J.none_step (x := "list") KX G ?a_b_list ?_
    (case a_b_list => k_is)
    intro u_b_list
    refine' J.tup_step (x := "WAYS") (xs := ["beside", "kept", "plain", "signs", "wide1", "wide2"]) KX G ?a_cWAYS ?l_cWAYS ?z_cWAYS ?e_cWAYS ?_
    (case a_cWAYS => k_is)
    (case l_cWAYS => k_is)
    (case z_cWAYS => exact Nat.le_of_ble_eq_true rfl)
    (case e_cWAYS => exact .cons ⟨_, rfl⟩ (.cons ⟨_, rfl⟩ (.cons ⟨_, rfl⟩ (.cons ⟨_, rfl⟩ (.cons ⟨_, rfl⟩ (.cons ⟨_, rfl⟩ (.nil)))))))
    intro u_cWAYS
    refine' J.tup_step (x := "ROUNDINGS") (xs := ["away", "down", "even", "up", "zero"]) KX G ?a_cROUND ?l_cROUND ?z_cROUND ?e_cROUND ?_
    (case a_cROUND => k_is)
    (case l_cROUND => k_is)
    (case z_cROUND => exact Nat.le_of_ble_eq_true rfl)
    (case e_cROUND => exact .cons ⟨_, rfl⟩ (.cons ⟨_, rfl⟩ (.cons ⟨_, rfl⟩ (.cons ⟨_, rfl⟩ (.cons ⟨_, rfl⟩ (.nil))))))
    intro u_cROUND
    refine' J.long_step KX G ?a_cLONG ?_
    (case a_cLONG => k_is)
    intro u_cLONG
    exact hQ { is_int := u_is_int, is_format := u_is_format, need_format := u_need_format, doubled := u_doubled, greatest_of := u_greatest_of, distance := u_distance, fits := u_fits, is_number_of := u_is_number_of, sides := u_sides, chosen := u_chosen, round_to := u_round_to, is_machine := u_is_machine, need_machine := u_need_machine, begun := u_begun, first_place := u_first_place, wider := u_wider, plus := u_plus, less := u_less, kept_step := u_kept_step, beside_step := u_beside_step, total_told := u_total_told, step := u_step, is_place := u_is_place, need_place := u_need_place, next_place := u_next_place, total_at := u_total_at, is_row_of := u_is_row_of, run := u_run, totals_of := u_totals_of, need_row := u_need_row, totals := u_totals, is_lot_of := u_is_lot_of, need_lot := u_need_lot, need_few := u_need_few, after := u_after, seen_total := u_seen_total, parted := u_parted, need_told := u_need_told, is_found := u_is_found, answers_at := u_answers_at, ranks_of := u_ranks_of, need_machines := u_need_machines, state_behind := u_state_behind, best_number := u_best_number, law_draw := u_law_draw, law_pick := u_law_pick, law_broad := u_law_broad, law_top := u_law_top, law_sides := u_law_sides, law_number := u_law_number, law_mode := u_law_mode, law_machine := u_law_machine, law_lot := u_law_lot, law_after := u_law_after, law_shown := u_law_shown, law_parted := u_law_parted, law_is_found := u_law_is_found, law_groups := u_law_groups, law_within := u_law_within, law_rank := u_law_rank, law_some := u_law_some, law_state := u_law_state, law := u_law, b_isinstance := u_b_isinstance, b_len := u_b_len, b_all := u_b_all, b_any := u_b_any, b_abs := u_b_abs, b_range := u_b_range, b_zip := u_b_zip, b_sorted := u_b_sorted, b_set := u_b_set, b_tuple := u_b_tuple, b_int := u_b_int, b_bool := u_b_bool, b_str := u_b_str, b_list := u_b_list, cWAYS := u_cWAYS, cROUND := u_cROUND, cLONG := u_cLONG }
