import PyProof.Rows.All
import Wide.All
import OpenK.AllK
import Wide.FinOn
import HandS.ForMost
import HandS.TupAny
import HandS.Flow
import HandS.DictComp
import HandS.Zip
import HandS.Style
import HandS.IsInst
import HandS.Conv
import HandS.Codes
import KE.KStar
import KE.SortData
import HandS.TupSets
import HandS.DictTup
import KE.GoesZip
import KE.GoesMore
import KE.DataMinMax
import PySem.Challenge.RW_keyedlines_k77_whole_groups_by_openers_a
set_option Elab.async false
set_option linter.all false
set_option maxRecDepth 100000
set_option maxHeartbeats 4000000
/-! KlDat: what a value stands for (plain data), what the slots of a def are known to hold, expressions by their data. -/
namespace Kl
open PySem PySem.Spec PyProof.Rows L2

/-! ### data that a value stands for -/
def hid (M : List Addr) (H : Hp) : Hp := fun a => if a ∈ M then none else H a
def eK (k : List Str) : PyData := .tuple (k.map .str)
def scalV : V → Bool
  | .bl _ => true
  | .int _ => true
  | _ => false
def vD : V → PyData
  | .bl b => .bool b
  | .int i => .int i
  | _ => .none
abbrev kvOf (L : List (List Str × V)) : List (List Key × V) := L.map fun p => (p.1.map Sum.inr, p.2)
abbrev kdOf (L : List (List Str × V)) : PyData := .dict (L.map fun p => (eK p.1, vD p.2))
mutual
inductive Rp (H : Hp) : V → PyData → Prop
  | non : Rp H .non .none
  | bl (b : Bool) : Rp H (.bl b) (.bool b)
  | int (i : Int) : Rp H (.int i) (.int i)
  | str (x : Str) : Rp H (.str x) (.str x)
  | lst {a : Addr} {xs : List V} {ds : List PyData} : H a = some (.lst xs) → Rps H xs ds → Rp H (.ref a) (.list ds)
  | tup {a : Addr} {xs : List V} {ds : List PyData} : H a = some (.tup xs) → Rps H xs ds → Rp H (.ref a) (.tuple ds)
  | dic {a : Addr} {o : Obj} (L : List (List Str × V)) : (∀ p ∈ L, scalV p.2 = true) → H a = some (.frz o (.dT (kvOf L))) → Rp H (.ref a) (kdOf L)
inductive Rps (H : Hp) : List V → List PyData → Prop
  | nil : Rps H [] []
  | cons {v : V} {vs : List V} {d : PyData} {ds : List PyData} : Rp H v d → Rps H vs ds → Rps H (v :: vs) (d :: ds)
end
mutual
theorem Rp.mono {H H' : Hp} (e : Same H H') : ∀ {v : V} {d : PyData}, Rp H v d → Rp H' v d
  | _, _, .non => .non
  | _, _, .bl b => .bl b
  | _, _, .int i => .int i
  | _, _, .str x => .str x
  | _, _, .lst h r => .lst (e _ _ h) (Rps.mono e r)
  | _, _, .tup h r => .tup (e _ _ h) (Rps.mono e r)
  | _, _, .dic L s h => .dic L s (e _ _ h)
theorem Rps.mono {H H' : Hp} (e : Same H H') : ∀ {vs : List V} {ds : List PyData}, Rps H vs ds → Rps H' vs ds
  | _, _, .nil => .nil
  | _, _, .cons h r => .cons (Rp.mono e h) (Rps.mono e r)
end
section
variable {H H' : Hp} {M M' : List Addr} {a l p : Addr} {o : HO} {vs ws : List V} {ds es : List PyData} {v : V} {d : PyData}
theorem Rps.length : ∀ {vs : List V} {ds : List PyData}, Rps H vs ds → vs.length = ds.length
  | _, _, .nil => rfl
  | _, _, .cons _ r => by rw [List.length_cons, List.length_cons, Rps.length r]
theorem Rps.append : ∀ {vs ws : List V} {ds es : List PyData}, Rps H vs ds → Rps H ws es → Rps H (vs ++ ws) (ds ++ es)
  | _, _, _, _, .nil, s => s
  | _, _, _, _, .cons h r, s => .cons h (Rps.append r s)
theorem Rps.get : ∀ {vs : List V} {ds : List PyData} {i : Nat} {d : PyData}, Rps H vs ds → ds[i]? = some d → ∃ v, vs[i]? = some v ∧ Rp H v d
  | _, _, i, d, .nil, e => by simp at e
  | _, _, 0, d, .cons h r, e => by simp at e; subst e; exact ⟨_, rfl, h⟩
  | _, _, i + 1, d, .cons h r, e => by
    obtain ⟨v, h1, h2⟩ := Rps.get (i := i) r (by simpa using e)
    exact ⟨v, by simpa using h1, h2⟩
theorem Rps.getV : ∀ {vs : List V} {ds : List PyData} {i : Nat} {v : V}, Rps H vs ds → vs[i]? = some v → ∃ d, ds[i]? = some d ∧ Rp H v d
  | _, _, i, d, .nil, e => by simp at e
  | _, _, 0, d, .cons h r, e => by simp at e; subst e; exact ⟨_, rfl, h⟩
  | _, _, i + 1, d, .cons h r, e => by
    obtain ⟨v, h1, h2⟩ := Rps.getV (i := i) r (by simpa using e)
    exact ⟨v, by simpa using h1, h2⟩
theorem Rps.drop : ∀ {vs : List V} {ds : List PyData} (n : Nat), Rps H vs ds → Rps H (vs.drop n) (ds.drop n)
  | _, _, 0, r => r
  | _, _, _ + 1, .nil => .nil
  | _, _, n + 1, .cons _ r => Rps.drop n r
theorem Rps.take : ∀ {vs : List V} {ds : List PyData} (n : Nat), Rps H vs ds → Rps H (vs.take n) (ds.take n)
  | _, _, 0, _ => .nil
  | _, _, _ + 1, .nil => .nil
  | _, _, n + 1, .cons h r => .cons h (Rps.take n r)
theorem Rps.set : ∀ {vs : List V} {ds : List PyData} {v : V} {d : PyData} (n : Nat), Rps H vs ds → Rp H v d → Rps H (vs.set n v) (ds.set n d)
  | _, _, _, _, _, .nil, _ => .nil
  | _, _, _, _, 0, .cons _ r, q => .cons q r
  | _, _, _, _, n + 1, .cons h r, q => .cons h (Rps.set n r q)
theorem Rps.eraseIdx : ∀ {vs : List V} {ds : List PyData} (n : Nat), Rps H vs ds → Rps H (vs.eraseIdx n) (ds.eraseIdx n)
  | _, _, _, .nil => .nil
  | _, _, 0, .cons _ r => r
  | _, _, n + 1, .cons h r => .cons h (Rps.eraseIdx n r)
theorem Rps.all {α : Type} {f : α → V} {g : α → PyData} (h : ∀ x, Rp H (f x) (g x)) : ∀ l : List α, Rps H (l.map f) (l.map g)
  | [] => .nil
  | x :: r => .cons (h x) (Rps.all h r)
/-- scalars in a row -/
theorem Rps.ints : ∀ {vs : List V} {ns : List Int}, Rps H vs (ns.map .int) → vs = ns.map V.int
  | _, [], h => by cases h; rfl
  | _, n :: r, h => by
    cases h with
    | cons h t => cases h; rw [Rps.ints t]; rfl
theorem Rps.strs : ∀ {vs : List V} {ns : List Str}, Rps H vs (ns.map .str) → vs = ns.map V.str
  | _, [], h => by cases h; rfl
  | _, n :: r, h => by
    cases h with
    | cons h t => cases h; rw [Rps.strs t]; rfl
theorem Rps.bools : ∀ {vs : List V} {ns : List Bool}, Rps H vs (ns.map .bool) → vs = ns.map V.bl
  | _, [], h => by cases h; rfl
  | _, n :: r, h => by
    cases h with
    | cons h t => cases h; rw [Rps.bools t]; rfl
mutual
/-- no dict is in it -/
def plD : PyData → Bool
  | .dict _ => false
  | .list l => plA l
  | .tuple l => plA l
  | _ => true
def plA : List PyData → Bool
  | [] => true
  | d :: r => plD d && plA r
end
mutual
theorem pl_lay : ∀ {d : PyData}, d.canLay0 = true → plD d = true
  | .none, _ => rfl
  | .bool _, _ => rfl
  | .int _, _ => rfl
  | .str _, _ => rfl
  | .list l, h => pl_layA (ds := l) (by simpa [PyData.canLay0] using h)
  | .tuple l, h => pl_layA (ds := l) (by simpa [PyData.canLay0] using h)
  | .dict _, h => by simp [PyData.canLay0] at h
theorem pl_layA : ∀ {ds : List PyData}, PyData.canLayAll0 ds = true → plA ds = true
  | [], _ => rfl
  | d :: r, h => by
    simp only [PyData.canLayAll0, Bool.and_eq_true] at h
    simp only [plA, Bool.and_eq_true]
    exact ⟨pl_lay h.1, pl_layA h.2⟩
end
mutual
theorem Rp.dp {K : PySem.W.Frag} : ∀ {v : V} {d : PyData}, plD d = true → Rp H v d → Dp K H v d
  | _, _, _, .non => .non
  | _, _, _, .bl b => .bl b
  | _, _, _, .int i => .int i
  | _, _, _, .str x => .str x
  | _, _, s, .lst h r => .lst (SqL.of h) (Rps.dp (by simpa [plD] using s) r)
  | _, _, s, .tup h r => .tup (SqT.of h) (Rps.dp (by simpa [plD] using s) r)
  | _, .dict _, n, _ => absurd n (by simp [plD])
theorem Rps.dp {K : PySem.W.Frag} : ∀ {vs : List V} {ds : List PyData}, plA ds = true → Rps H vs ds → DpAll K H vs ds
  | _, _, _, .nil => .nil
  | _, _, s, .cons h r => .cons (Rp.dp (by simp [plA] at s; exact s.1) h) (Rps.dp (by simp [plA] at s; exact s.2) r)
end

theorem hid_le : Same (hid M H) H := fun a o h => by
  unfold hid at h
  split at h
  · cases h
  · exact h
theorem hid_sub (s : ∀ m ∈ M', m ∈ M) : Same (hid M H) (hid M' H) := fun a o h => by
  unfold hid at h ⊢
  split at h
  · cases h
  · rename_i n
    rw [if_neg (fun z => n (s _ z))]
    exact h
theorem hid_same (e : Same H H') : Same (hid M H) (hid M H') := fun a o h => by
  unfold hid at h ⊢
  split at h
  · cases h
  · rename_i n
    rw [if_neg n]
    exact e _ _ h
theorem hid_in (h : l ∈ M) : hid M (upd H l o) = hid M H := by
  funext b
  unfold hid
  split
  · rfl
  · rename_i n
    rw [upd_ne (fun z => n (by rw [z]; exact h))]
theorem hid_out (h : p ∉ M) : hid M (upd H p o) = upd (hid M H) p o := by
  funext b
  unfold hid
  by_cases e : b = p
  · subst e
    rw [if_neg h, upd_same, upd_same]
  · rw [upd_ne e, upd_ne e]
theorem hid_at (h : p ∉ M) : hid M H p = H p := by
  unfold hid
  rw [if_neg h]
theorem hid_of {o : HO} (h : hid M H p = some o) : p ∉ M ∧ H p = some o := by
  unfold hid at h
  split at h
  · cases h
  · exact ⟨by assumption, h⟩
theorem same_new (h : H p = none) : Same H (upd H p o) := fun a u e => by
  rw [upd_ne (ne_of_none e h)]
  exact e
/-- what must stand while it is walked -/
structure Pin where
  φ : Hp → Prop
  up : ∀ {H H' : Hp}, Same H H' → φ H → φ H'
def pinD (v : V) (d : PyData) : Pin := ⟨fun H => Rp H v d, fun s h => h.mono s⟩
def pinA (a : Addr) (o : HO) : Pin := ⟨fun H => H a = some o, fun s h => s _ _ h⟩
theorem hid_more (h : H p = none) : Same (hid M H) (hid (p :: M) (upd H p o)) := fun a u q => by
  obtain ⟨h1, h2⟩ := hid_of q
  have ne : a ≠ p := ne_of_none h2 h
  unfold hid
  rw [if_neg (by simp only [List.mem_cons, not_or]; exact ⟨ne, h1⟩), upd_ne ne]
  exact h2
/-- all the hidden places are tracked -/
def noTup : HO → Bool
  | .tup _ => false
  | _ => true
def Trk (M : List Addr) (H : Hp) : Prop := ∀ m ∈ M, ∃ o, H m = some o ∧ noTup o = true
theorem Trk.mono (t : Trk M H) (e : Same H H') : Trk M H' := fun m hm => by
  obtain ⟨o, h1, h2⟩ := t m hm
  exact ⟨o, e m o h1, h2⟩
theorem Trk.ne (t : Trk M H) (h : p ∈ M) : H p ≠ none := fun z => by
  obtain ⟨o, h1, _⟩ := t p h
  rw [z] at h1
  cases h1
theorem Trk.out (t : Trk M H) (h : H p = none) : p ∉ M := fun z => t.ne z h
theorem Trk.outT (t : Trk M H) {xs : List V} (h : H p = some (.tup xs)) : p ∉ M := fun z => by
  obtain ⟨o, h1, h2⟩ := t p z
  rw [h] at h1
  cases h1
  cases h2
/-- a new thing stands open -/
theorem rp_newT (t : Trk M H) (h : H p = none) (r : Rps (hid M H) vs ds) : Rp (hid M (upd H p (.tup vs))) (.ref p) (.tuple ds) := by
  rw [hid_out (t.out h)]
  exact .tup upd_same (r.mono (same_new (by rw [hid_at (t.out h)]; exact h)))
theorem rp_newL (t : Trk M H) (h : H p = none) (r : Rps (hid M H) vs ds) : Rp (hid M (upd H p (.lst vs))) (.ref p) (.list ds) := by
  rw [hid_out (t.out h)]
  exact .lst upd_same (r.mono (same_new (by rw [hid_at (t.out h)]; exact h)))
end
end Kl
/-! KlEv: what the slots hold, expressions by their data. -/
namespace Kl
open PySem PySem.Spec PyProof.Rows L2

/-- what a slot is known to hold: data; a list of one's own that may change; such a dict; the law's box, with what its three places fulfil; the script's ints -/
inductive Ent where
  | dat (d : PyData)
  | own (ds : List PyData)
  | dct (L : List (List Str × V))
  | box (P : Int → Int → Int → Prop)
  | scr (ns : List Int)
  | tbl (ks : List Str) (ds : List PyData)
abbrev Dl := List (Option Ent)
structure Cfg where
  K : PySem.W.Frag
  H0 : Hp
  M0 : List Addr
  B : List Addr
  /-- things that are walked while they stand -/
  P : List Pin := []
abbrev Pins (M : List Addr) (H : Hp) (ps : List Pin) : Prop := ∀ p ∈ ps, p.φ (hid M H)
abbrev Cfg.pin (C : Cfg) (ps : List Pin) : Cfg := { C with P := ps ++ C.P }
def BoxAt (H : Hp) (b : Addr) (P : Int → Int → Int → Prop) : Prop := ∃ g s c : Int, H b = some (.lst [.int g, .int s, .int c]) ∧ P g s c
/-- a dict with texts as keys -/
def tb (ks : List Str) (vs : List V) : List (Key × V) := (ks.zip vs).map fun p => (.inr p.1, p.2)
def EntOk (C : Cfg) (M : List Addr) (H : Hp) (v : V) : Ent → Prop
  | .dat d => Rp (hid M H) v d
  | .own ds => ∃ l xs, v = .ref l ∧ l ∈ M ∧ C.H0 l = none ∧ H l = some (.lst xs) ∧ Rps (hid M H) xs ds
  | .dct L => ∃ l, v = .ref l ∧ l ∈ M ∧ C.H0 l = none ∧ (∀ p ∈ L, scalV p.2 = true) ∧ H l = some (.dT (kvOf L))
  | .box n => ∃ b, v = .ref b ∧ b ∈ M ∧ b ∈ C.B ∧ BoxAt H b n
  | .scr ns => ∃ a, v = .ref a ∧ SqL C.K (hid M H) a (ns.map V.int)
  | .tbl ks ds => ∃ l xs, v = .ref l ∧ l ∈ M ∧ C.H0 l = none ∧ H l = some (.dK (tb ks xs)) ∧ Rps (hid M H) xs ds
def isOwn : Ent → Bool
  | .own _ => true
  | .dct _ => true
  | .box _ => true
  | .tbl _ _ => true
  | _ => false
structure OkM (C : Cfg) (M : List Addr) (δ : Dl) (σ : L2.St) (H : Hp) : Prop where
  fr : ∀ a o, a ∉ C.B → C.H0 a = some o → H a = some o
  t0 : Trk C.M0 C.H0
  b0 : ∀ b ∈ C.B, b ∈ C.M0
  sub : ∀ m ∈ C.M0, m ∈ M
  trk : Trk M H
  pin : Pins M H C.P
  len : δ.length ≤ σ.length
  val : ∀ (i : Nat) e, δ[i]? = some (some e) → ∃ v, σ[i]? = some (some v) ∧ EntOk C M H v e
  apart : ∀ (i j : Nat) e e' v, δ[i]? = some (some e) → δ[j]? = some (some e') → isOwn e = true → isOwn e' = true → σ[i]? = some (some v) → σ[j]? = some (some v) → i = j
section
variable {C : Cfg} {M M' : List Addr} {δ δ' : Dl} {σ : L2.St} {H H' : Hp} {v : V} {d : PyData} {i : Nat} {e : Ent}
theorem EntOk.mono (s : Same H H') : ∀ {e : Ent}, EntOk C M H v e → EntOk C M H' v e
  | .dat d, h => Rp.mono (hid_same s) h
  | .own ds, ⟨l, xs, e1, e2, e3, e4, e5⟩ => ⟨l, xs, e1, e2, e3, s _ _ e4, e5.mono (hid_same s)⟩
  | .tbl ks ds, ⟨l, xs, e1, e2, e3, e4, e5⟩ => ⟨l, xs, e1, e2, e3, s _ _ e4, e5.mono (hid_same s)⟩
  | .dct L, ⟨l, e1, e2, e3, e4, e5⟩ => ⟨l, e1, e2, e3, e4, s _ _ e5⟩
  | .box n, ⟨b, e1, e2, e3, g, s', c, e4, e5⟩ => ⟨b, e1, e2, e3, g, s', c, s _ _ e4, e5⟩
  | .scr ns, ⟨a, e1, e2⟩ => ⟨a, e1, Same.seq (hid_same s) e2⟩
theorem OkM.mono (ok : OkM C M δ σ H) (s : Same H H') : OkM C M δ σ H' :=
  ⟨fun a o h1 h2 => s _ _ (ok.fr a o h1 h2), ok.t0, ok.b0, ok.sub, ok.trk.mono s, fun p hp => p.up (hid_same s) (ok.pin p hp), ok.len, fun i e h => let ⟨v, h1, h2⟩ := ok.val i e h; ⟨v, h1, h2.mono s⟩, ok.apart⟩
/-- one more hidden place -/
theorem EntOk.more {l : Addr} (hl : H l = none) {o : HO} : ∀ {e : Ent}, EntOk C M H v e → EntOk C (l :: M) (upd H l o) v e := by
  have s : Same (hid M H) (hid (l :: M) (upd H l o)) := fun a u h => by
    obtain ⟨h1, h2⟩ := hid_of h
    have ne : a ≠ l := ne_of_none h2 hl
    unfold hid
    rw [if_neg (by simp only [List.mem_cons, not_or]; exact ⟨ne, h1⟩), upd_ne ne]
    exact h2
  have n := same_new (o := o) hl
  intro e h
  cases e with
  | dat d => exact Rp.mono s h
  | own ds =>
    obtain ⟨k, xs, e1, e2, e3, e4, e5⟩ := h
    exact ⟨k, xs, e1, List.mem_cons_of_mem _ e2, e3, n _ _ e4, e5.mono s⟩
  | tbl ks0 ds =>
    obtain ⟨k, xs, e1, e2, e3, e4, e5⟩ := h
    exact ⟨k, xs, e1, List.mem_cons_of_mem _ e2, e3, n _ _ e4, e5.mono s⟩
  | dct L =>
    obtain ⟨k, e1, e2, e3, e4, e5⟩ := h
    exact ⟨k, e1, List.mem_cons_of_mem _ e2, e3, e4, n _ _ e5⟩
  | box m =>
    obtain ⟨b, e1, e2, e3, g, s', c, e4, e5⟩ := h
    exact ⟨b, e1, List.mem_cons_of_mem _ e2, e3, g, s', c, n _ _ e4, e5⟩
  | scr ns =>
    obtain ⟨a, e1, e2⟩ := h
    exact ⟨a, e1, Same.seq s e2⟩
theorem OkM.more {l : Addr} {o : HO} (ok : OkM C M δ σ H) (hl : H l = none) (ho : noTup o = true := by rfl) : OkM C (l :: M) δ σ (upd H l o) :=
  ⟨fun a u h1 h2 => same_new hl _ _ (ok.fr a u h1 h2), ok.t0, ok.b0, fun m h => List.mem_cons_of_mem _ (ok.sub m h), fun m h => by
    rcases List.mem_cons.mp h with e | h
    · rw [e, upd_same]; exact ⟨o, rfl, ho⟩
    · exact ok.trk.mono (same_new hl) m h, fun p hp => p.up (hid_more hl) (ok.pin p hp), ok.len, fun i e h => let ⟨v, h1, h2⟩ := ok.val i e h; ⟨v, h1, h2.more hl⟩, ok.apart⟩
/-- what was free at the entry is free there -/
theorem OkM.new0 (ok : OkM C M δ σ H) {l : Addr} (hl : H l = none) (hb : l ∉ C.B) : C.H0 l = none := by
  cases q : C.H0 l with
  | none => rfl
  | some o => rw [ok.fr l o hb q] at hl; cases hl
theorem OkM.outB (ok : OkM C M δ σ H) {l : Addr} (hl : H l = none) : l ∉ C.B := fun z => ok.trk.ne (ok.sub l (ok.b0 l z)) hl

theorem get_set_eq {α : Type} {l : List α} {i j : Nat} {x y : α} (h : (l.set i x)[j]? = some y) : (j = i ∧ y = x ∧ i < l.length) ∨ (j ≠ i ∧ l[j]? = some y) := by
  by_cases e : i = j
  · subst e
    rw [List.getElem?_set] at h
    simp only [if_true] at h
    split at h
    · cases h
      exact .inl ⟨rfl, rfl, by assumption⟩
    · cases h
  · rw [List.getElem?_set_ne e] at h
    exact .inr ⟨fun z => e z.symm, h⟩
/-- a slot is stored -/
theorem OkM.put (ok : OkM C M δ σ H) (hs : isOwn e = false) (h : EntOk C M H v e) : OkM C M (δ.set i (some e)) (σ.set i (some v)) H := by
  refine ⟨ok.fr, ok.t0, ok.b0, ok.sub, ok.trk, ok.pin, by rw [List.length_set, List.length_set]; exact ok.len, fun j u q => ?_, fun j k u u' w h1 h2 h3 h4 h5 h6 => ?_⟩
  · rcases get_set_eq q with ⟨e1, e2, e3⟩ | ⟨e1, e2⟩
    · cases e2
      subst e1
      exact ⟨v, by rw [List.getElem?_set_self (Nat.lt_of_lt_of_le e3 ok.len)], h⟩
    · obtain ⟨w, h1, h2⟩ := ok.val j u e2
      exact ⟨w, by rw [List.getElem?_set_ne (Ne.symm e1)]; exact h1, h2⟩
  · rcases get_set_eq h1 with ⟨e1, e2, e3⟩ | ⟨e1, e2⟩
    · cases e2; rw [hs] at h3; cases h3
    · rcases get_set_eq h2 with ⟨f1, f2, f3⟩ | ⟨f1, f2⟩
      · cases f2; rw [hs] at h4; cases h4
      · rw [List.getElem?_set_ne (Ne.symm e1)] at h5
        rw [List.getElem?_set_ne (Ne.symm f1)] at h6
        exact ok.apart j k u u' w e2 f2 h3 h4 h5 h6
/-- a slot of one's own is stored: its place is nowhere else -/
theorem OkM.putO (ok : OkM C M δ σ H) (hn : ∀ (j : Nat) u, j ≠ i → δ[j]? = some (some u) → isOwn u = true → σ[j]? ≠ some (some v)) (h : EntOk C M H v e) : OkM C M (δ.set i (some e)) (σ.set i (some v)) H := by
  refine ⟨ok.fr, ok.t0, ok.b0, ok.sub, ok.trk, ok.pin, by rw [List.length_set, List.length_set]; exact ok.len, fun j u q => ?_, fun j k u u' w h1 h2 h3 h4 h5 h6 => ?_⟩
  · rcases get_set_eq q with ⟨e1, e2, e3⟩ | ⟨e1, e2⟩
    · cases e2
      subst e1
      exact ⟨v, by rw [List.getElem?_set_self (Nat.lt_of_lt_of_le e3 ok.len)], h⟩
    · obtain ⟨w, h1, h2⟩ := ok.val j u e2
      exact ⟨w, by rw [List.getElem?_set_ne (Ne.symm e1)]; exact h1, h2⟩
  · rcases get_set_eq h1 with ⟨e1, e2, e3⟩ | ⟨e1, e2⟩
    · rcases get_set_eq h2 with ⟨f1, f2, f3⟩ | ⟨f1, f2⟩
      · rw [e1, f1]
      · exfalso
        subst e1
        rw [List.getElem?_set_self (Nat.lt_of_lt_of_le e3 ok.len)] at h5
        cases h5
        rw [List.getElem?_set_ne (Ne.symm f1)] at h6
        exact hn k u' f1 f2 h4 h6
    · rcases get_set_eq h2 with ⟨f1, f2, f3⟩ | ⟨f1, f2⟩
      · exfalso
        subst f1
        rw [List.getElem?_set_self (Nat.lt_of_lt_of_le f3 ok.len)] at h6
        cases h6
        rw [List.getElem?_set_ne (Ne.symm e1)] at h5
        exact hn j u e1 e2 h3 h5
      · rw [List.getElem?_set_ne (Ne.symm e1)] at h5
        rw [List.getElem?_set_ne (Ne.symm f1)] at h6
        exact ok.apart j k u u' w e2 f2 h3 h4 h5 h6
theorem OkM.pinned (ok : OkM C M δ σ H) {ps : List Pin} (h : Pins M H ps) : OkM (C.pin ps) M δ σ H :=
  ⟨ok.fr, ok.t0, ok.b0, ok.sub, ok.trk, fun p hp => (List.mem_append.mp hp).elim (h p) (ok.pin p), ok.len, fun i e h => let ⟨v, h1, h2⟩ := ok.val i e h; ⟨v, h1, by cases e <;> exact h2⟩, ok.apart⟩
theorem OkM.unpin {ps : List Pin} (ok : OkM (C.pin ps) M δ σ H) : OkM C M δ σ H :=
  ⟨ok.fr, ok.t0, ok.b0, ok.sub, ok.trk, fun p hp => ok.pin p (List.mem_append_right _ hp), ok.len, fun i e h => let ⟨v, h1, h2⟩ := ok.val i e h; ⟨v, h1, by cases e <;> exact h2⟩, ok.apart⟩
/-- less is known -/
def Les (δ' δ : Dl) : Prop := δ'.length ≤ δ.length ∧ ∀ (i : Nat) e, δ'[i]? = some (some e) → δ[i]? = some (some e)
theorem Les.refl (δ : Dl) : Les δ δ := ⟨Nat.le_refl _, fun _ _ h => h⟩
theorem Les.nil : Les [] δ := ⟨Nat.zero_le _, fun i e h => by simp at h⟩
theorem Les.keep {x : Option Ent} (h : Les δ' δ) : Les (x :: δ') (x :: δ) := ⟨Nat.succ_le_succ h.1, fun i e q => by
  cases i with
  | zero => exact q
  | succ i => exact h.2 i e (by simpa using q)⟩
theorem Les.skip {x : Option Ent} (h : Les δ' δ) : Les (none :: δ') (x :: δ) := ⟨Nat.succ_le_succ h.1, fun i e q => by
  cases i with
  | zero => cases q
  | succ i => exact h.2 i e (by simpa using q)⟩
theorem OkM.les (ok : OkM C M δ σ H) (l : Les δ' δ) : OkM C M δ' σ H :=
  ⟨ok.fr, ok.t0, ok.b0, ok.sub, ok.trk, ok.pin, Nat.le_trans l.1 ok.len, fun i e h => ok.val i e (l.2 i e h), fun i j e e' v h1 h2 => ok.apart i j e e' v (l.2 i e h1) (l.2 j e' h2)⟩
def wipeD (δ : Dl) : List Nat → Dl
  | [] => δ
  | v :: vs => (wipeD δ vs).set v none
theorem wipeD_les (δ : Dl) : ∀ vs, Les (wipeD δ vs) δ
  | [] => .refl δ
  | v :: vs => by
    obtain ⟨h1, h2⟩ := wipeD_les δ vs
    refine ⟨by show ((wipeD δ vs).set v none).length ≤ _; rw [List.length_set]; exact h1, fun i e q => ?_⟩
    have q : ((wipeD δ vs).set v none)[i]? = some (some e) := q
    rcases get_set_eq q with ⟨_, e2, _⟩ | ⟨_, e2⟩
    · cases e2
    · exact h2 i e e2
theorem wipeD_out {δ : Dl} {i : Nat} {e : Ent} : ∀ {vs : List Nat}, (wipeD δ vs)[i]? = some (some e) → i ∉ vs
  | [], _ => by simp
  | v :: vs, q => by
    have q : ((wipeD δ vs).set v none)[i]? = some (some e) := q
    rcases get_set_eq q with ⟨_, e2, _⟩ | ⟨e1, e2⟩
    · cases e2
    · simp only [List.mem_cons, not_or]
      exact ⟨e1, wipeD_out e2⟩
theorem OkM.wipe (ok : OkM C M δ σ H) (vs : List Nat) : OkM C M (wipeD δ vs) (L2.wipe σ vs) H := by
  have l := wipeD_les δ vs
  refine ⟨ok.fr, ok.t0, ok.b0, ok.sub, ok.trk, ok.pin, by rw [wipe_length]; exact Nat.le_trans l.1 ok.len, fun i e h => ?_, fun i j e e' v h1 h2 h3 h4 h5 h6 => ?_⟩
  · obtain ⟨v, h1, h2⟩ := ok.val i e (l.2 i e h)
    exact ⟨v, by rw [wipe_out (wipeD_out h)]; exact h1, h2⟩
  · exact ok.apart i j e e' v (l.2 i e h1) (l.2 j e' h2) h3 h4 (wipe_some h5).1 (wipe_some h6).1
end

/-! ### rules and their consequences -/
section
variable {X : Cx} {e : Expr} {es : List Expr} {t t' : TE}
theorem _root_.L2.PE.imp (h : PE X e t) (i : ∀ σ H Q, t' σ H Q → t σ H Q) : PE X e t' := ⟨fun pins s σ H Q I q => h.run pins s σ H Q I (i σ H Q q)⟩
theorem _root_.L2.PT.imp {t t' : TT} (h : PT X e t) (i : ∀ σ H Q, t' σ H Q → t σ H Q) : PT X e t' := ⟨fun pins s σ H Q I q => h.run pins s σ H Q I (i σ H Q q)⟩
theorem _root_.L2.PW.imp {t t' : TT} (h : PW X e t) (i : ∀ σ H Q, t' σ H Q → t σ H Q) : PW X e t' := ⟨fun wh pins s σ H Q I q => h.run wh pins s σ H Q I (i σ H Q q)⟩
theorem _root_.L2.PA.imp {t t' : TA} (h : PA X es t) (i : ∀ σ H Q, t' σ H Q → t σ H Q) : PA X es t' := ⟨fun pos pins s σ H Q I q => h.run pos pins s σ H Q I (i σ H Q q)⟩
theorem _root_.L2.PS.imp {st : Stmt} {t t' : TS} (h : PS X st t) (i : ∀ D σ H, t' D σ H → t D σ H) : PS X st t' := ⟨fun pins s σ H D I q => h.run pins s σ H D I (i D σ H q)⟩
theorem _root_.L2.PSs.imp {st : List Stmt} {t t' : TS} (h : PSs X st t) (i : ∀ D σ H, t' D σ H → t D σ H) : PSs X st t' := ⟨fun pins s σ H D I q => h.run pins s σ H D I (i D σ H q)⟩
theorem _root_.L2.PE.ex {α : Sort _} {t : α → TE} (h : ∀ x, PE X e (t x)) : PE X e (fun σ H Q => ∃ x, t x σ H Q) := ⟨fun pins s σ H Q I ⟨x, q⟩ => (h x).run pins s σ H Q I q⟩
theorem _root_.L2.PT.ex {α : Sort _} {t : α → TT} (h : ∀ x, PT X e (t x)) : PT X e (fun σ H Q => ∃ x, t x σ H Q) := ⟨fun pins s σ H Q I ⟨x, q⟩ => (h x).run pins s σ H Q I q⟩
theorem _root_.L2.PTs.ex {α : Sort _} {t : α → TT} (h : ∀ x, PTs X es (t x)) : PTs X es (fun σ H Q => ∃ x, t x σ H Q) := ⟨fun pins s σ H Q I ⟨x, q⟩ => (h x).run pins s σ H Q I q⟩
theorem _root_.L2.PTs.imp {t t' : TT} (h : PTs X es t) (i : ∀ σ H Q, t' σ H Q → t σ H Q) : PTs X es t' := ⟨fun pins s σ H Q I q => h.run pins s σ H Q I (i σ H Q q)⟩
theorem _root_.L2.PSs.ex {α : Sort _} {st : List Stmt} {t : α → TS} (h : ∀ x, PSs X st (t x)) : PSs X st (fun D σ H => ∃ x, t x D σ H) := ⟨fun pins s σ H D I ⟨x, q⟩ => (h x).run pins s σ H D I q⟩
theorem _root_.L2.PG.ex {α : Sort _} {t : α → TG} (h : ∀ x, PG X e (t x)) : PG X e (fun v σ H Q => ∃ x, t x v σ H Q) := ⟨fun pins s σ H v u Q I r ⟨x, q⟩ => (h x).run pins s σ H v u Q I r q⟩
theorem _root_.L2.PG.imp {t t' : TG} (h : PG X e t) (i : ∀ v σ H Q, t' v σ H Q → t v σ H Q) : PG X e t' := ⟨fun pins s σ H v u Q I r q => h.run pins s σ H v u Q I r (i v σ H Q q)⟩
theorem _root_.L2.PI.imp {tg : Expr} {t t' : TI} (h : PI X tg e t) (i : ∀ σ H R, t' σ H R → t σ H R) : PI X tg e t' := ⟨fun pins s σ H R I q => h.run pins s σ H R I (i σ H R q)⟩

/-- no list, no tuple is over long -/
def Small (H : Hp) : Prop := ∀ a, (∀ xs, H a = some (.lst xs) → xs.length ≤ sizeLine) ∧ ∀ xs, H a = some (.tup xs) → xs.length ≤ sizeLine
theorem _root_.L2.Inv.small {pins : List (Addr × Obj)} {σ : L2.St} {H : Hp} {s : Shared} (I : Inv X pins σ H s) : Small H := fun a => ⟨fun xs h => (I.hok a _ h).1, fun xs h => (I.hok a _ h).1⟩
theorem _root_.L2.PE.small (h : PE X e t) : PE X e (fun σ H Q => t σ H fun v H' => Small H' → Q v H') := ⟨fun pins s σ H Q I q =>
  thn (h.run pins s σ H _ I q) fun v s1 ⟨x, H1, I1, r, k⟩ => ⟨x, H1, I1, r, k (Inv.small I1)⟩⟩
theorem _root_.L2.PT.small {t : TT} (h : PT X e t) : PT X e (fun σ H Q => t σ H fun v H' => Small H' → Q v H') := ⟨fun pins s σ H Q I q =>
  thn (h.run pins s σ H _ I q) fun v s1 ⟨H1, I1, k⟩ => ⟨H1, I1, k (Inv.small I1)⟩⟩
theorem _root_.L2.PA.small {t : TA} (h : PA X es t) : PA X es (fun σ H Q => t σ H fun v H' => Small H' → Q v H') := ⟨fun pos pins s σ H Q I q =>
  thn (h.run pos pins s σ H _ I q) fun v s1 ⟨x, H1, I1, r, k⟩ => ⟨x, H1, I1, r, k (Inv.small I1)⟩⟩
theorem _root_.L2.PI.small {tg : Expr} {t : TI} (h : PI X tg e t) : PI X tg e (fun σ H R => t σ H fun J H' => Small H' → R J H') := ⟨fun pins s σ H R I q =>
  thn (h.run pins s σ H _ I q) fun v s0 z => thn z fun u s1 ⟨it, fp, tn, J, H', e1, I1, T, t0, f, k⟩ => ⟨it, fp, tn, J, H', e1, I1, T, t0, f, k (Inv.small I1)⟩⟩
end

/-! ### expressions by their data -/
def tD (C : Cfg) (δ : Dl) (d : PyData) : TE := fun σ H Q => ∃ M, OkM C M δ σ H ∧ ∀ v H', Small H' → Same H H' → Rp (hid M H') v d → Q v H'
def tDt (C : Cfg) (δ : Dl) (b : Bool) : TT := fun σ H Q => ∃ M, OkM C M δ σ H ∧ ∀ H', Small H' → Same H H' → Q b H'
def tDa (C : Cfg) (δ : Dl) (ds : List PyData) : TA := fun σ H Q => ∃ M, OkM C M δ σ H ∧ ∀ vs H', Small H' → Same H H' → Rps (hid M H') vs ds → Q vs H'
/-- a list or a tuple to be read, maybe one of one's own -/
def SqV (K : PySem.W.Frag) (H : Hp) (a : Addr) (vs : List V) : Prop := SqL K H a vs ∨ SqT K H a vs
def tDs (C : Cfg) (δ : Dl) (ds : List PyData) : TE := fun σ H Q => ∃ M, OkM C M δ σ H ∧ ∀ a vs H', Small H' → Same H H' → vs.length ≤ sizeLine → SqV C.K H' a vs → Rps (hid M H') vs ds → Q (.ref a) H'
abbrev Ev (X : Cx) (C : Cfg) (δ : Dl) (e : Expr) (d : PyData) : Prop := PE X e (tD C δ d)
abbrev EvT (X : Cx) (C : Cfg) (δ : Dl) (e : Expr) (b : Bool) : Prop := PT X e (tDt C δ b)
abbrev EvA (X : Cx) (C : Cfg) (δ : Dl) (es : List Expr) (ds : List PyData) : Prop := PA X es (tDa C δ ds)
abbrev EvS (X : Cx) (C : Cfg) (δ : Dl) (e : Expr) (ds : List PyData) : Prop := PE X e (tDs C δ ds)
theorem SqV.mono {K : PySem.W.Frag} {H H' : Hp} {a : Addr} {vs : List V} (s : Same H H') (h : SqV K H a vs) : SqV K H' a vs := by
  rcases h with h | (h | ⟨o, h⟩) | h
  · exact .inl (s.seq h)
  · exact .inr (.inl (.inl (s _ _ h)))
  · exact .inr (.inl (.inr ⟨o, s _ _ h⟩))
  · exact .inr (.inr h)
section
variable {X : Cx} {C : Cfg} {δ : Dl} {a b e : Expr} {es : List Expr} {d d1 d2 : PyData} {ds ds1 ds2 : List PyData} {pos : Pos}
theorem Ev.cast (h : Ev X C δ e d1) (q : d1 = d) : Ev X C δ e d := by rw [← q]; exact h
theorem EvT.cast {k k' : Bool} (h : EvT X C δ e k) (q : k = k') : EvT X C δ e k' := by rw [← q]; exact h
theorem EvS.cast (h : EvS X C δ e ds1) (q : ds1 = ds) : EvS X C δ e ds := by rw [← q]; exact h
/-- what is known, then the data: the usual way to show an Ev -/
theorem Ev.mk {t : TE} (h : PE X e t) (i : ∀ M σ H (Q : VK), OkM C M δ σ H → (∀ v H', Small H' → Same H H' → Rp (hid M H') v d → Q v H') → t σ H fun v H' => Small H' → Q v H') : Ev X C δ e d :=
  h.small.imp fun σ H Q ⟨M, ok, q⟩ => i M σ H Q ok q
theorem EvT.mk {k : Bool} {t : TT} (h : PT X e t) (i : ∀ M σ H (Q : Bool → Hp → Prop), OkM C M δ σ H → (∀ H', Small H' → Same H H' → Q k H') → t σ H fun v H' => Small H' → Q v H') : EvT X C δ e k :=
  h.small.imp fun σ H Q ⟨M, ok, q⟩ => i M σ H Q ok q
theorem EvS.mk {t : TE} (h : PE X e t) (i : ∀ M σ H (Q : VK), OkM C M δ σ H → (∀ a vs H', Small H' → Same H H' → vs.length ≤ sizeLine → SqV C.K H' a vs → Rps (hid M H') vs ds → Q (.ref a) H') → t σ H fun v H' => Small H' → Q v H') : EvS X C δ e ds :=
  h.small.imp fun σ H Q ⟨M, ok, q⟩ => i M σ H Q ok q
/-- names -/
theorem nv (i : Nat) {x : Str} (hN : X.N[i]? = some x := by rfl) (hδ : δ[i]? = some (some (.dat d)) := by rfl) (hv : Vis X.env.scope x := by first | exact Or.inl rfl | exact Or.inr (Or.inl rfl) | exact Or.inr (Or.inr rfl))
    (hd : (x == ("__debug__" : Str)) = false := by decide) (hcd : (x == ("__classdict__" : Str)) = false := by decide) : Ev X C δ (.Name x pos) d :=
  Ev.mk (pe_var hN hv hd hcd) fun M σ H Q ok q => by
    obtain ⟨v, h1, h2⟩ := ok.val i _ hδ
    exact ⟨v, h1, fun sm => q v H sm (Same.refl H) h2⟩
/-- data as a sequence -/
theorem Ev.seqL (h : Ev X C δ e (.list ds)) : EvS X C δ e ds := h.imp fun σ H Q ⟨M, ok, q⟩ => ⟨M, ok, fun v H' sm s r => by
  cases r with
  | lst h r => exact q _ _ H' sm s ((sm _).1 _ (hid_le _ _ h)) (.inl (SqL.of (hid_le _ _ h))) r⟩
theorem Ev.seqT (h : Ev X C δ e (.tuple ds)) : EvS X C δ e ds := h.imp fun σ H Q ⟨M, ok, q⟩ => ⟨M, ok, fun v H' sm s r => by
  cases r with
  | tup h r => exact q _ _ H' sm s ((sm _).2 _ (hid_le _ _ h)) (.inr (SqT.of (hid_le _ _ h))) r⟩
/-- a name that holds a list of one's own -/
theorem no (i : Nat) {x : Str} (hN : X.N[i]? = some x := by rfl) (hδ : δ[i]? = some (some (.own ds)) := by rfl) (hv : Vis X.env.scope x := by first | exact Or.inl rfl | exact Or.inr (Or.inl rfl) | exact Or.inr (Or.inr rfl))
    (hd : (x == ("__debug__" : Str)) = false := by decide) (hcd : (x == ("__classdict__" : Str)) = false := by decide) : EvS X C δ (.Name x pos) ds :=
  EvS.mk (pe_var hN hv hd hcd) fun M σ H Q ok q => by
    obtain ⟨v, h1, l, xs, e1, e2, e3, e4, e5⟩ := ok.val i _ hδ
    exact ⟨v, h1, fun sm => by rw [e1]; exact q l xs H sm (Same.refl H) ((sm _).1 _ e4) (.inl (SqL.of e4)) e5⟩
/-- constants -/
theorem ev_int {i : Int} {j} : Ev X C δ (.Constant (.int i) j pos) (.int i) := Ev.mk pe_int fun M σ H Q ok q => fun sm => q _ H sm (Same.refl H) (.int i)
theorem ev_str {x : Str} {j} : Ev X C δ (.Constant (.str x) j pos) (.str x) := Ev.mk pe_str fun M σ H Q ok q => fun sm => q _ H sm (Same.refl H) (.str x)
theorem ev_bl {x : Bool} {j} : Ev X C δ (.Constant (.bool x) j pos) (.bool x) := Ev.mk pe_bl fun M σ H Q ok q => fun sm => q _ H sm (Same.refl H) (.bl x)
theorem ev_non {j} : Ev X C δ (.Constant .none j pos) .none := Ev.mk pe_non fun M σ H Q ok q => fun sm => q _ H sm (Same.refl H) .non
/-- a module's int -/
theorem ev_gi {x : Str} {i : Int} (hg : Gl X x) (hm : ∃ t, X.mg x = some (.int i t)) (hd : (x == ("__debug__" : Str)) = false := by decide) : Ev X C δ (.Name x pos) (.int i) := by
  obtain ⟨t, hm⟩ := hm
  exact Ev.mk (pe_glob hg hm (v := .int i) ⟨t, rfl⟩ hd) fun M σ H Q ok q => fun sm => q _ H sm (Same.refl H) (.int i)
/-- arguments, displays -/
theorem ea_nil : EvA X C δ [] [] := (PA.small pa_nil).imp fun σ H Q ⟨M, ok, q⟩ => fun sm => q [] H sm (Same.refl H) .nil
theorem ea_cons (ha : Ev X C δ e d) (hr : EvA X C δ es ds) (hs : starEach (e :: es) X.env = (false, eval e X.env) :: starEach es X.env := by rfl) : EvA X C δ (e :: es) (d :: ds) :=
  (pa_cons ha hr hs).imp fun σ H Q ⟨M, ok, q⟩ => ⟨M, ok, fun v H1 sm s r => ⟨M, ok.mono s, fun vs H2 sm2 s2 rs => q (v :: vs) H2 sm2 (s.trans s2) (.cons (r.mono (hid_same s2)) rs)⟩⟩
theorem ev_tup {k} (h : EvA X C δ es ds) (hz : ds.length ≤ sizeLine := by first | decide | (simp only [List.length_cons, List.length_nil]; decide)) : Ev X C δ (.Tuple es k pos) (.tuple ds) :=
  Ev.mk (pe_tup h) fun M σ H Q ok q => ⟨M, ok, fun vs H' sm s r => ⟨by rw [r.length]; exact hz, fun p hp sm2 => q _ _ sm2 (s.trans (same_new hp)) (rp_newT (ok.trk.mono s) hp r)⟩⟩
theorem ev_lst (h : EvA X C δ es ds) (hz : ds.length ≤ sizeLine := by first | decide | (simp only [List.length_cons, List.length_nil]; decide)) : Ev X C δ (.List es pos) (.list ds) :=
  Ev.mk (pe_lst h) fun M σ H Q ok q => ⟨M, ok, fun vs H' sm s r => ⟨by rw [r.length]; exact hz, fun p hp sm2 => q _ _ sm2 (s.trans (same_new hp)) (rp_newL (ok.trk.mono s) hp r)⟩⟩
/-- a two-place operation by data -/
def OpD (r : R2) (d1 d2 d : PyData) : Prop := ∀ (M : List Addr) (H : Hp) (x y : V) (Q : VK), Small H → Trk M H → Rp (hid M H) x d1 → Rp (hid M H) y d2 → (∀ v H', Same H H' → Rp (hid M H') v d → Q v H') → r x y H Q
theorem ev_op {op : Operator} {r : R2} (ho : OpR X (binaryOp op) r) (ha : Ev X C δ a d1) (hb : Ev X C δ b d2) (hr : OpD r d1 d2 d) : Ev X C δ (.BinOp a op b pos) d :=
  Ev.mk (pe_op ho ha hb) fun M σ H Q ok q => ⟨M, ok, fun x H1 sm s r1 => ⟨M, ok.mono s, fun y H2 sm2 s2 r2 => hr M H2 x y _ sm2 (ok.trk.mono (s.trans s2)) (r1.mono (hid_same s2)) r2 fun v H3 s3 r3 sm3 => q v H3 sm3 ((s.trans s2).trans s3) r3⟩⟩
theorem ev_cmp {op : CmpOp} {r : R2} (ho : OpR X (compareOp op) r) (ha : Ev X C δ a d1) (hb : Ev X C δ b d2) (hr : OpD r d1 d2 d) (hm : behindInMarks op b = false) : Ev X C δ (.Compare a [op] [b] pos) d :=
  Ev.mk (pe_cmpR ho ha hb hm) fun M σ H Q ok q => ⟨M, ok, fun x H1 sm s r1 => ⟨M, ok.mono s, fun y H2 sm2 s2 r2 => hr M H2 x y _ sm2 (ok.trk.mono (s.trans s2)) (r1.mono (hid_same s2)) r2 fun v H3 s3 r3 sm3 => q v H3 sm3 ((s.trans s2).trans s3) r3⟩⟩
theorem et_cmp {op : CmpOp} {r : R2} {k : Bool} (ho : OpR X (compareOp op) r) (ha : Ev X C δ a d1) (hb : Ev X C δ b d2) (hr : OpD r d1 d2 (.bool k)) (hm : behindInMarks op b = false) : EvT X C δ (.Compare a [op] [b] pos) k :=
  EvT.mk (pt_cmpR ho ha hb hm) fun M σ H Q ok q => ⟨M, ok, fun x H1 sm s r1 => ⟨M, ok.mono s, fun y H2 sm2 s2 r2 => hr M H2 x y _ sm2 (ok.trk.mono (s.trans s2)) (r1.mono (hid_same s2)) r2 fun v H3 s3 r3 => by
    cases r3
    exact ⟨k, rfl, fun sm3 => q H3 sm3 ((s.trans s2).trans s3)⟩⟩⟩
/-- ints -/
theorem od_int {g : Int → Int → V} {i j : Int} {d : PyData} (h : ∀ H, Rp H (g i j) d) : OpD (rI0 g) (.int i) (.int j) d := fun M H x y Q sm t r1 r2 q => by
  cases r1; cases r2
  exact ⟨i, j, rfl, rfl, q _ H (Same.refl H) (h _)⟩
theorem od_intC {P : Int → Int → Prop} {g : Int → Int → V} {i j : Int} {d : PyData} (hc : P i j) (h : ∀ H, Rp H (g i j) d) : OpD (rI P g) (.int i) (.int j) d := fun M H x y Q sm t r1 r2 q => by
  cases r1; cases r2
  exact ⟨i, j, rfl, rfl, hc, q _ H (Same.refl H) (h _)⟩
theorem ev_add {i j : Int} (ha : Ev X C δ a (.int i)) (hb : Ev X C δ b (.int j)) : Ev X C δ (.BinOp a .Add b pos) (.int (i + j)) := ev_op op_add ha hb (od_int fun _ => .int _)
theorem ev_sub {i j : Int} (ha : Ev X C δ a (.int i)) (hb : Ev X C δ b (.int j)) : Ev X C δ (.BinOp a .Sub b pos) (.int (i - j)) := ev_op op_sub ha hb (od_int fun _ => .int _)
theorem ev_mul {i j : Int} (ha : Ev X C δ a (.int i)) (hb : Ev X C δ b (.int j)) (hc : CMul i j) : Ev X C δ (.BinOp a .Mult b pos) (.int (i * j)) := ev_op op_mul ha hb (od_intC hc fun _ => .int _)
theorem et_lt {i j : Int} (ha : Ev X C δ a (.int i)) (hb : Ev X C δ b (.int j)) : EvT X C δ (.Compare a [.Lt] [b] pos) (decide (i < j)) := et_cmp op_lt ha hb (od_int fun _ => .bl _) (nomark _)
theorem et_le {i j : Int} (ha : Ev X C δ a (.int i)) (hb : Ev X C δ b (.int j)) : EvT X C δ (.Compare a [.LtE] [b] pos) (decide (i ≤ j)) := et_cmp op_le ha hb (od_int fun _ => .bl _) (nomark _)
theorem et_gt {i j : Int} (ha : Ev X C δ a (.int i)) (hb : Ev X C δ b (.int j)) : EvT X C δ (.Compare a [.Gt] [b] pos) (decide (j < i)) := et_cmp op_gt ha hb (od_int fun _ => .bl _) (nomark _)
theorem et_ge {i j : Int} (ha : Ev X C δ a (.int i)) (hb : Ev X C δ b (.int j)) : EvT X C δ (.Compare a [.GtE] [b] pos) (decide (j ≤ i)) := et_cmp op_ge ha hb (od_int fun _ => .bl _) (nomark _)
theorem ev_le {i j : Int} (ha : Ev X C δ a (.int i)) (hb : Ev X C δ b (.int j)) : Ev X C δ (.Compare a [.LtE] [b] pos) (.bool (decide (i ≤ j))) := ev_cmp op_le ha hb (od_int fun _ => .bl _) (nomark _)
theorem ev_ge {i j : Int} (ha : Ev X C δ a (.int i)) (hb : Ev X C δ b (.int j)) : Ev X C δ (.Compare a [.GtE] [b] pos) (.bool (decide (j ≤ i))) := ev_cmp op_ge ha hb (od_int fun _ => .bl _) (nomark _)
end
end Kl
/-! KlCo: what is walked, targets, comprehensions. -/
namespace Kl
open PySem PySem.Spec PyProof.Rows L2

/-- an iterator that yields data: new things may be laid at a turn; ps: what must stand as it is meanwhile -/
def Yld (st : Bool) (M : List Addr) (J : It) (ds : List PyData) (H : Hp) : Prop :=
  ds.length ≤ sizeLine ∧ ∃ ps : List Pin, Pins M H ps ∧ ∀ M' i H', Pins M' H' ps → (st = true → Same H H' ∧ Same (hid M H) (hid M' H')) → Trk M' H' →
    (∀ d, ds[i]? = some d → J.go i H' ∧ ∀ x H2, J.yld i H' x H2 → Same H' H2 ∧ Rp (hid M' H2) x d) ∧ (i = ds.length → J.stop i H')
def tDi (st : Bool) (C : Cfg) (δ : Dl) (ds : List PyData) : TI := fun σ H R => ∃ M, OkM C M δ σ H ∧ ∀ J H', Small H' → Same H H' → Yld st M J ds H' → R J H'
abbrev EvI (st : Bool) (X : Cx) (C : Cfg) (δ : Dl) (tg e : Expr) (ds : List PyData) : Prop := PI X tg e (tDi st C δ ds)
/-- a target: the slots is are stored -/
def Onl (is : List Nat) (σ σ' : L2.St) : Prop := σ'.length = σ.length ∧ ∀ j, j ∉ is → σ'[j]? = σ[j]?
def tDg (C : Cfg) (δ : Dl) (d : PyData) (δ' : Dl) (is : List Nat) : TG := fun v σ H Q => ∃ M, OkM C M δ σ H ∧ Rp (hid M H) v d ∧ ∀ σ', Onl is σ σ' → OkM C M δ' σ' H → Q σ' H
abbrev EvG (X : Cx) (C : Cfg) (δ : Dl) (tg : Expr) (d : PyData) (δ' : Dl) (is : List Nat) : Prop := PG X tg (tDg C δ d δ' is)
section
variable {X : Cx} {C : Cfg} {δ δ' δ2 : Dl} {a b e tg : Expr} {es : List Expr} {d d1 d2 : PyData} {ds ds1 ds2 : List PyData} {pos : Pos}
theorem wipe_onl {is : List Nat} {σ σ' : L2.St} (h : Onl is σ σ') : ∀ {vs : List Nat}, (∀ i ∈ is, i ∈ vs) → L2.wipe σ' vs = L2.wipe σ vs := fun {vs} hs => by
  refine List.ext_getElem? fun j => ?_
  have hl : (L2.wipe σ' vs).length = (L2.wipe σ vs).length := by rw [wipe_length, wipe_length, h.1]
  by_cases hj : j ∈ vs
  · have key : ∀ (τ : L2.St) (us : List Nat), j ∈ us → (L2.wipe τ us)[j]? = if j < τ.length then some none else none := by
      intro τ us
      induction us with
      | nil => intro z; cases z
      | cons u us ih =>
        intro z
        show ((L2.wipe τ us).set u none)[j]? = _
        rw [List.getElem?_set]
        by_cases e : u = j
        · subst e
          rw [if_pos rfl, wipe_length]
        · rw [if_neg e]
          rcases List.mem_cons.mp z with z | z
          · exact absurd z.symm e
          · exact ih z
    rw [key _ _ hj, key _ _ hj, h.1]
  · rw [wipe_out hj, wipe_out hj]
    exact h.2 j fun z => hj (hs j z)
theorem Onl.set {is : List Nat} {σ : L2.St} {i : Nat} {v : Option V} (h : i ∈ is) : Onl is σ (σ.set i v) := ⟨by rw [List.length_set], fun j hj => by rw [List.getElem?_set_ne (fun z => hj (by rw [← z]; exact h))]⟩
theorem Onl.trans {is : List Nat} {σ σ1 σ2 : L2.St} (h : Onl is σ σ1) (h2 : Onl is σ1 σ2) : Onl is σ σ2 := ⟨h2.1.trans h.1, fun j hj => (h2.2 j hj).trans (h.2 j hj)⟩
/-- a name -/
theorem gn (i : Nat) {x : Str} (hN : X.N.Nodup) (hi : X.N[i]? = some x := by rfl) (hx : Loc X.env.scope x := by first | exact Or.inl rfl | exact Or.inr rfl) (hf : X.fn x = true ∨ X.env.scope.names.lookup x = some .local := by first | exact .inl rfl | exact .inr rfl | assumption) :
    EvG X C δ (.Name x pos) d (δ.set i (some (.dat d))) [i] :=
  (pg_name hN hi hx hf).imp fun v σ H Q ⟨M, ok, r, q⟩ => q _ (Onl.set (by simp)) (ok.put rfl r)
/-- a, b = a pair -/
theorem gn2 {i j : Nat} {ta tb : Expr} {k : Nat} {p : Pos} (hc : X.calm = true) (h1 : ∀ δ d, EvG X C δ ta d (δ.set i (some (.dat d))) [i]) (h2 : ∀ δ d, EvG X C δ tb d (δ.set j (some (.dat d))) [j])
    (hs : (assignEach (ta :: [tb]) X.env).map (·.2) = assign ta X.env :: (assignEach [tb] X.env).map (·.2) := by rfl) (hs2 : (assignEach (tb :: []) X.env).map (·.2) = assign tb X.env :: (assignEach [] X.env).map (·.2) := by rfl)
    (hn : (assignEach [ta, tb] X.env).length = 2 := by rfl) (hst : (assignEach [ta, tb] X.env).findIdx? (·.1) = none := by rfl) :
    EvG X C δ (.Tuple [ta, tb] k p) (.tuple [d1, d2]) ((δ.set i (some (.dat d1))).set j (some (.dat d2))) [i, j] :=
  (pg_tup hc (pgs_cons (PG.ex (α := Dl × PyData) fun z => h1 z.1 z.2) (pgs_cons (PG.ex (α := Dl × PyData) fun z => h2 z.1 z.2) pgs_nil hs2) hs) hn hst).imp fun v σ H Q ⟨M, ok, r, q⟩ => by
    cases r with
    | @tup a xs ds h r =>
      cases r with
      | @cons v1 _ _ _ r1 r =>
        cases r with
        | @cons v2 _ _ _ r2 r =>
          cases r
          refine ⟨a, [v1, v2], rfl, SqT.of (hid_le _ _ h), rfl, v1, [v2], rfl, ⟨δ, d1⟩, M, ok, r1, fun σ' o1 ok1 => ⟨v2, [], rfl, ⟨_, d2⟩, M, ok1, r2, fun σ2 o2 ok2 => ⟨rfl, ?_⟩⟩⟩
          refine q σ2 (Onl.trans (σ1 := σ') ⟨o1.1, fun j' hj => o1.2 j' (by simp at hj ⊢; exact hj.1)⟩ ⟨o2.1, fun j' hj => o2.2 j' (by simp at hj ⊢; exact hj.2)⟩) ok2

/-! ### what is walked -/
theorem sqT_mono {K : PySem.W.Frag} {H H' : Hp} {a : Addr} {vs : List V} (s : Same H H') (h : SqT K H a vs) : SqT K H' a vs := by
  rcases h with (h | ⟨o, h⟩) | h
  · exact .inl (.inl (s _ _ h))
  · exact .inl (.inr ⟨o, s _ _ h⟩)
  · exact .inr h
theorem yld_L {st : Bool} {M : List Addr} {K : PySem.W.Frag} {H : Hp} {l : Addr} (hz : ds.length ≤ sizeLine) (h : Rp (hid M H) (.ref l) (.list ds)) : Yld st M (Itl K l) ds H := by
  refine ⟨hz, [pinD (.ref l) (.list ds)], fun p hp => by rw [List.mem_singleton.mp hp]; exact h, fun M' i H' hp _ t => ?_⟩
  have r : Rp (hid M' H') (.ref l) (.list ds) := hp _ (List.mem_singleton.mpr rfl)
  cases r with
  | @lst _ vs _ hl rr =>
    have hl' := SqL.of (K := K) (hid_le _ _ hl)
    refine ⟨fun d hd => ?_, fun e => ⟨vs, hl', by rw [rr.length]; exact Nat.le_of_eq e.symm⟩⟩
    obtain ⟨v, hv, rv⟩ := rr.get hd
    refine ⟨⟨vs, v, hl', hv⟩, fun x H2 hy => ?_⟩
    obtain ⟨rfl, hy⟩ := hy
    have hx := hy _ hl'
    rw [hx] at hv
    cases hv
    exact ⟨Same.refl _, rv⟩
theorem yld_T {st : Bool} {M : List Addr} {K : PySem.W.Frag} {H : Hp} {l : Addr} (hz : ds.length ≤ sizeLine) (h : Rp (hid M H) (.ref l) (.tuple ds)) : Yld st M (Itt K l) ds H := by
  refine ⟨hz, [pinD (.ref l) (.tuple ds)], fun p hp => by rw [List.mem_singleton.mp hp]; exact h, fun M' i H' hp _ t => ?_⟩
  have r : Rp (hid M' H') (.ref l) (.tuple ds) := hp _ (List.mem_singleton.mpr rfl)
  cases r with
  | @tup _ vs _ hl rr =>
    have hl' := SqT.of (K := K) (hid_le _ _ hl)
    refine ⟨fun d hd => ?_, fun e => ⟨vs, hl', by rw [rr.length]; exact Nat.le_of_eq e.symm⟩⟩
    obtain ⟨v, hv, rv⟩ := rr.get hd
    refine ⟨⟨vs, v, hl', hv⟩, fun x H2 hy => ?_⟩
    obtain ⟨rfl, hy⟩ := hy
    have hx := hy _ hl'
    rw [hx] at hv
    cases hv
    exact ⟨Same.refl _, rv⟩
theorem yld_S {M : List Addr} {K : PySem.W.Frag} {H : Hp} {l : Addr} {vs : List V} (hz : vs.length ≤ sizeLine) (h : SqL K H l vs) (r : Rps (hid M H) vs ds) : Yld true M (Itl K l) ds H := by
  refine ⟨by rw [← r.length]; exact hz, [], fun p hp => by simp at hp, fun M' i H' _ s t => ⟨fun d hd => ?_, fun e => ⟨vs, (s rfl).1.seq h, by rw [r.length]; exact Nat.le_of_eq e.symm⟩⟩⟩
  obtain ⟨v, hv, rv⟩ := r.get hd
  refine ⟨⟨vs, v, (s rfl).1.seq h, hv⟩, fun x H2 hy => ?_⟩
  obtain ⟨rfl, hy⟩ := hy
  have hx := hy _ ((s rfl).1.seq h)
  rw [hx] at hv
  cases hv
  exact ⟨Same.refl _, rv.mono (s rfl).2⟩
theorem yld_ST {M : List Addr} {K : PySem.W.Frag} {H : Hp} {l : Addr} {vs : List V} (hz : vs.length ≤ sizeLine) (h : SqT K H l vs) (r : Rps (hid M H) vs ds) : Yld true M (Itt K l) ds H := by
  refine ⟨by rw [← r.length]; exact hz, [], fun p hp => by simp at hp, fun M' i H' _ s t => ⟨fun d hd => ?_, fun e => ⟨vs, sqT_mono (s rfl).1 h, by rw [r.length]; exact Nat.le_of_eq e.symm⟩⟩⟩
  obtain ⟨v, hv, rv⟩ := r.get hd
  refine ⟨⟨vs, v, sqT_mono (s rfl).1 h, hv⟩, fun x H2 hy => ?_⟩
  obtain ⟨rfl, hy⟩ := hy
  have hx := hy _ (sqT_mono (s rfl).1 h)
  rw [hx] at hv
  cases hv
  exact ⟨Same.refl _, rv.mono (s rfl).2⟩
/-- any list or tuple -/
theorem pi_seq {l : Expr} {tl : TE} (hl : PE X l tl) : PI X tg l (fun σ H R => tl σ H fun x H1 => ∃ a, x = .ref a ∧ ((∃ xs, SqL X.K H1 a xs ∧ R (Itl X.K a) H1) ∨ ∃ xs, SqT X.K H1 a xs ∧ R (Itt X.K a) H1)) := by
  refine ⟨fun pins s σ H R I h => ?_⟩
  refine thn (hl.run pins s σ H _ I h) fun v s1 ⟨x, H1, I1, r1, q1⟩ => ?_
  obtain ⟨a, e, q⟩ := q1
  subst e
  cases r1
  rcases q with ⟨xs, hq, q⟩ | ⟨xs, hq, q⟩
  · obtain ⟨its, rv, p, hz⟩ := I1.list hq
    refine wpAny_pyIter_list p.isList ?_
    refine ⟨s1.heap.objs.size, [s1.heap.objs.size], _, _, H1, rfl, I1.kept (t' := s1.toks) fun b o e => Heap.get?_push_of_some _ e, turn_list a _, ⟨_, Heap.get?_push_size _ rfl, rfl, rfl⟩, fun b hb => ?_, q⟩
    obtain rfl : b = s1.heap.objs.size := by simpa using hb
    exact I1.fpOk (Nat.le_refl _) (I1.hok.fresh (Nat.le_refl _))
  · obtain ⟨its, rv, p, hz⟩ := I1.tuple hq
    refine wpAny_pyIter_tuple (show s1.heap.IsTuple a its.toArray from p) ?_
    refine ⟨s1.heap.objs.size, [s1.heap.objs.size], _, _, H1, rfl, I1.kept (t' := s1.toks) fun b o e => Heap.get?_push_of_some _ e, turn_tuple a _, ⟨_, Heap.get?_push_size _ rfl, rfl, rfl⟩, fun b hb => ?_, q⟩
    obtain rfl : b = s1.heap.objs.size := by simpa using hb
    exact I1.fpOk (Nat.le_refl _) (I1.hok.fresh (Nat.le_refl _))
theorem ei_seq (h : EvS X C δ e ds) (hK : C.K = X.K := by rfl) : EvI true X C δ tg e ds :=
  (PI.small (pi_seq h)).imp fun σ H R ⟨M, ok, q⟩ => ⟨M, ok, fun l vs H1 sm s hz hq r => ⟨l, rfl, by
    rw [hK] at hq
    rcases hq with hq | hq
    · exact .inl ⟨vs, hq, fun _ => q _ H1 sm s (yld_S hz hq r)⟩
    · exact .inr ⟨vs, hq, fun _ => q _ H1 sm s (yld_ST hz hq r)⟩⟩⟩
theorem ei_L {st : Bool} (h : Ev X C δ e (.list ds)) : EvI st X C δ tg e ds :=
  (PI.small (pi_seq h)).imp fun σ H R ⟨M, ok, q⟩ => ⟨M, ok, fun v H1 sm s r => by
    have r0 := r
    cases r with
    | @lst a xs _ h r =>
      have h' := hid_le _ _ h
      exact ⟨a, rfl, .inl ⟨xs, SqL.of h', fun _ => q _ H1 sm s (yld_L (by rw [← r.length]; exact (sm _).1 _ h') r0)⟩⟩⟩
theorem ei_T {st : Bool} (h : Ev X C δ e (.tuple ds)) : EvI st X C δ tg e ds :=
  (PI.small (pi_seq h)).imp fun σ H R ⟨M, ok, q⟩ => ⟨M, ok, fun v H1 sm s r => by
    have r0 := r
    cases r with
    | @tup a xs _ h r =>
      have h' := hid_le _ _ h
      exact ⟨a, rfl, .inr ⟨xs, SqT.of h', fun _ => q _ H1 sm s (yld_T (by rw [← r.length]; exact (sm _).2 _ h') r0)⟩⟩⟩

/-! ### list comprehensions -/
/-- a new list: its own place hidden -/
def tDf (C : Cfg) (δ : Dl) (ds : List PyData) : TE := fun σ H Q => ∃ M, OkM C M δ σ H ∧ ∀ l xs H', Small H' → Same H H' → H l = none → H' l = some (.lst xs) → Rps (hid (l :: M) H') xs ds → Q (.ref l) H'
abbrev EvF (X : Cx) (C : Cfg) (δ : Dl) (e : Expr) (ds : List PyData) : Prop := PE X e (tDf C δ ds)
theorem hid_cons {M : List Addr} {l : Addr} {H : Hp} : Same (hid (l :: M) H) (hid M H) := hid_sub fun m hm => List.mem_cons_of_mem _ hm
theorem EvF.ev (h : EvF X C δ e ds) : Ev X C δ e (.list ds) := h.imp fun σ H Q ⟨M, ok, q⟩ => ⟨M, ok, fun l xs H' sm s nl hl r => q _ H' sm s (.lst (by
  rw [hid_at (ok.trk.out nl)]
  exact hl) (r.mono hid_cons))⟩
theorem EvF.seq (h : EvF X C δ e ds) : EvS X C δ e ds := h.ev.seqL
theorem EvF.cast (h : EvF X C δ e ds1) (q : ds1 = ds) : EvF X C δ e ds := by rw [← q]; exact h
theorem EvF.mk {t : TE} (h : PE X e t) (i : ∀ M σ H (Q : VK), OkM C M δ σ H → (∀ l xs H', Small H' → Same H H' → H l = none → H' l = some (.lst xs) → Rps (hid (l :: M) H') xs ds → Q (.ref l) H') → t σ H fun v H' => Small H' → Q v H') : EvF X C δ e ds :=
  h.small.imp fun σ H Q ⟨M, ok, q⟩ => i M σ H Q ok q
/-- the reading of a comprehension -/
theorem lc_read {α : Type} {xs : List α} {en : α → PyData} {p : α → Bool} {f : α → PyData} {δx : α → Dl} {is vs : List Nat} (his : ∀ i ∈ is, i ∈ vs) {M : List Addr} {σ : L2.St} {H : Hp} {Q : VK} (ok : OkM C M δ σ H)
    (q : ∀ l zs H', Same H H' → H l = none → H' l = some (.lst zs) → Rps (hid (l :: M) H') zs ((xs.filter p).map f) → Q (.ref l) H') :
    tLc (tDi true C δ (xs.map en)) (fun v σ H Q => ∃ x : { x : α // x ∈ xs }, tDg C (wipeD δ vs) (en x.1) (δx x.1) is v σ H Q) (fun σ H Q => ∃ x : { x : α // x ∈ xs }, tDt C (δx x.1) (p x.1) σ H Q)
      (fun σ H Q => ∃ x : { x : α // x ∈ xs ∧ p x = true }, tD C (δx x.1) (f x.1) σ H Q) vs σ H Q := by
  refine ⟨M, ok, fun J H1 sm1 s1 hy D hD => ?_⟩
  obtain ⟨hz, ps, hps, hy⟩ := hy
  have hDM : D ∉ M := (ok.mono s1).trk.out hD
  rw [List.length_map] at hz
  refine ⟨fun i m H' => m = xs.length - i ∧ i ≤ xs.length ∧ Same H1 H' ∧ ∃ acc, H' D = some (.lst acc) ∧ Rps (hid (D :: M) H') acc (((xs.take i).filter p).map f), ⟨xs.length, by simp, Nat.zero_le _, same_new hD, [], upd_same, .nil⟩, ?_⟩
  rintro i m H2 ⟨rfl, hi, s2, acc, hacc, rr⟩
  have sh : Same (hid M H1) (hid (D :: M) H2) := fun b o q => by
    obtain ⟨h1, h2⟩ := hid_of q
    rw [hid_at (by simp only [List.mem_cons, not_or]; exact ⟨ne_of_none h2 hD, h1⟩)]
    exact s2 _ _ h2
  have okM2 : OkM C (D :: M) δ σ H2 := by
    have z : OkM C (D :: M) δ σ (upd H1 D (.lst [])) := (ok.mono s1).more hD
    refine ⟨(ok.mono (s1.trans s2)).fr, z.t0, z.b0, z.sub, fun m hm => ?_, fun p hp => p.up ((hid_same s1).trans sh) (ok.pin p hp), z.len, fun i e h => ?_, z.apart⟩
    · rcases List.mem_cons.mp hm with e | hm
      · rw [e, hacc]; exact ⟨_, rfl, rfl⟩
      · exact (ok.mono (s1.trans s2)).trk m hm
    · obtain ⟨v, h1, h2⟩ := ok.val i e h
      have h3 : EntOk C M H1 v e := h2.mono s1
      have h4 : EntOk C (D :: M) (upd H1 D (.lst acc)) v e := h3.more hD
      refine ⟨v, h1, h4.mono fun b o q => ?_⟩
      by_cases e : b = D
      · rw [e, upd_same] at q; cases q; rw [e]; exact hacc
      · rw [upd_ne e] at q; exact s2 _ _ q
  obtain ⟨go, stop⟩ := hy (D :: M) i H2 (fun p hp => p.up sh (hps p hp)) (fun _ => ⟨s2, sh⟩) okM2.trk
  by_cases hlt : i < xs.length
  · have hx : xs[i]? = some xs[i] := List.getElem?_eq_getElem hlt
    have hmem : xs[i] ∈ xs := List.getElem_mem hlt
    generalize xs[i] = x at hx hmem
    obtain ⟨g1, g2⟩ := go (en x) (by rw [List.getElem?_map, hx]; rfl)
    refine .inr ⟨g1, fun H' => Same H1 H' ∧ ∃ acc, H' D = some (.lst acc) ∧ Rps (hid (D :: M) H') acc (((xs.take (i + 1)).filter p).map f), fun H' hN => ⟨xs.length - (i + 1), by omega, rfl, hlt, hN⟩, fun v H3 hv => ?_⟩
    obtain ⟨s3, rx⟩ := g2 v H3 hv
    refine ⟨⟨x, hmem⟩, D :: M, (okM2.mono s3).wipe vs, rx, fun σ2 o2 ok2 => ⟨(wipe_onl o2 his).trans ?_, ⟨x, hmem⟩, D :: M, ok2, fun H4 sm4 s4 => ?_⟩⟩
    · have w2 : ∀ (τ : L2.St) (us : List Nat), L2.wipe (L2.wipe τ us) us = L2.wipe τ us := fun τ us => by
        refine wipe_onl (is := us) ⟨wipe_length _ _, fun j hj => wipe_out hj⟩ fun i h => h
      exact w2 σ vs
    · have et : xs.take (i + 1) = xs.take i ++ [x] := by rw [List.take_add_one, hx]; rfl
      cases hp : p x with
      | true =>
        refine iteT ⟨⟨x, hmem, hp⟩, D :: M, ok2.mono s4, fun y H5 sm5 s5 ry => ?_⟩
        have hD5 : H5 D = some (.lst acc) := s5 _ _ (s4 _ _ (s3 _ _ hacc))
        refine ⟨acc, hD5, ?_, fun b o q => ?_, acc ++ [y], upd_same, ?_⟩
        · have l1 := rr.length
          rw [List.length_map] at l1
          have l2 := List.length_filter_le p (xs.take i)
          rw [List.length_take] at l2
          omega
        · rw [upd_ne (ne_of_none q hD)]
          exact s5 _ _ (s4 _ _ (s3 _ _ (s2 _ _ q)))
        · rw [hid_in List.mem_cons_self, et, List.filter_append, List.map_append]
          have e1 : ([x].filter p).map f = [f x] := by simp [hp]
          rw [e1]
          exact (rr.mono (hid_same ((s3.trans s4).trans s5))).append (.cons ry .nil)
      | false =>
        refine iteF ⟨(s2.trans s3).trans s4, acc, s4 _ _ (s3 _ _ hacc), ?_⟩
        rw [et, List.filter_append, List.map_append]
        have e1 : ([x].filter p).map f = [] := by simp [hp]
        rw [e1, List.append_nil]
        exact rr.mono (hid_same (s3.trans s4))
  · have e : i = xs.length := by omega
    subst e
    rw [List.take_length] at rr
    exact .inl ⟨stop (by rw [List.length_map]), q D acc H2 (s1.trans s2) (Same.free s1 hD) hacc rr⟩
variable {α : Type} {xs : List α} {en : α → PyData} {p : α → Bool} {f : α → PyData} {δx : α → Dl} {is : List Nat} {elt iter : Expr} {ifs : List Expr} {scope : Scope} {own : List (Str × Nat)}
/-- [elt for tg in iter if ..] -/
theorem ef_lc (own : List (Str × Nat)) (hc : X.calm = true) (hN : X.N.Nodup) (hi : EvI true X C δ tg iter (xs.map en)) (ok : BlkOk X.N X.env.scope scope own) (his : ∀ i ∈ is, i ∈ own.map (·.2))
    (hg : ∀ (s : Shared) (H : Hp) (Cc : Addr) (cl : List (Str × Addr)) (fp : List Addr) (x : α), EvG (X.blk s H scope (compEnvC scope cl Cc X.env) fp) C (wipeD δ (own.map (·.2))) tg (en x) (δx x) is)
    (ht : ∀ (s : Shared) (H : Hp) (Cc : Addr) (cl : List (Str × Addr)) (fp : List Addr) (x : α), x ∈ xs → PTs (X.blk s H scope (compEnvC scope cl Cc X.env) fp) ifs (tDt C (δx x) (p x)))
    (he : ∀ (s : Shared) (H : Hp) (Cc : Addr) (cl : List (Str × Addr)) (fp : List Addr) (x : α), x ∈ xs → p x = true → Ev (X.blk s H scope (compEnvC scope cl Cc X.env) fp) C (δx x) elt (f x))
    (hs : ∀ x, foldedSetIterable iter X.env x = pure x := by intro _; rfl) : EvF X C δ (.ListComp elt [⟨tg, iter, ifs, 0⟩] scope pos) ((xs.filter p).map f) :=
  EvF.mk (pe_lc hc hN hi ok (fun s H Cc cl fp => PG.ex fun x => hg s H Cc cl fp x.1) (fun s H Cc cl fp => PTs.ex fun x => ht s H Cc cl fp x.1 x.2) (fun s H Cc cl fp => PE.ex fun x => he s H Cc cl fp x.1 x.2.1 x.2.2) hs)
    fun M σ H Q okm q => lc_read his okm fun l zs H' s nl hl r sm => q l zs H' sm s nl hl r
end
end Kl
/-! KlSt: calls, tests, statements. -/
namespace Kl
open PySem PySem.Spec PyProof.Rows L2
open C8 (Cal pe_c)

/-! ### promises of defs that only reckon -/
def spR (n : Nat) (S : List PyData → PyData → Prop) : Sp := fun vs H Q _ => vs.length = n ∧ ∃ M ds r, Trk M H ∧ Rps (hid M H) vs ds ∧ S ds r ∧ ∀ v H', Same H H' → Rp (hid M H') v r → Q v H'
section
variable {X : Cx} {C : Cfg} {δ δ' δ2 : Dl} {a b c e tg : Expr} {es : List Expr} {d d1 d2 r : PyData} {ds ds1 ds2 : List PyData} {pos p : Pos} {k k' : Bool}
theorem ev_call {n j lv : Nat} {x : Str} {S : List PyData → PyData → Prop} (cl : Cal X.prog X.w X.K X.mg X.base lv x (spR n S) []) (hr : Room j X.A) (ha : EvA X C δ (e :: es) ds) (hS : S ds r) (hk : lv ≤ j := by decide) (hn : ds.length = n := by rfl) (hg : Gl X x := by rfl)
    (hdb : (x == ("__debug__" : Str)) = false := by decide) (he : starEach (e :: es) X.env = (false, eval e X.env) :: starEach es X.env := by rfl) (hpl : (backTo pos (starEach es X.env)).any (·.1) = false := by rfl) :
    Ev X C δ (.Call (.Name x p) (e :: es) [] pos) r :=
  Ev.mk (pe_c cl hr hk hg ha hdb he hpl) fun M σ H Q ok q => ⟨M, ok, fun vs H1 sm s rs => ⟨by rw [List.append_nil, rs.length]; exact hn, M, ds, r, ok.trk.mono s, by rw [List.append_nil]; exact rs, hS, fun v H2 s2 rv sm2 => q v H2 sm2 (s.trans s2) rv⟩⟩
/-! ### tests -/
theorem et_v (h : Ev X C δ e (.bool k)) (he : ∀ whole, isTrue e X.env whole = (do let v ← whole; standAt e.pos; holding [v] (truthy v)) := by intro _; rfl) : EvT X C δ e k :=
  EvT.mk (pt_val h he) fun M σ H Q ok q => ⟨M, ok, fun v H' sm s r => by
    cases r
    exact ⟨k, rfl, fun sm => q H' sm s⟩⟩
abbrev EvW (X : Cx) (C : Cfg) (δ : Dl) (e : Expr) (b : Bool) : Prop := PW X e (tDt C δ b)
theorem ew_and1 (ha : EvT X C δ a k) : EvW X C δ (.BoolOp .And [a] pos) k := (pw_and1 ha).imp fun σ H Q q => q
theorem ew_or1 (ha : EvT X C δ a k) : EvW X C δ (.BoolOp .Or [a] pos) k := (pw_or1 ha).imp fun σ H Q q => q
theorem ew_and {rest : List Expr} (ha : EvT X C δ a k) (hb : k = true → EvW X C δ (.BoolOp .And (b :: rest) pos) k') : EvW X C δ (.BoolOp .And (a :: b :: rest) pos) (k && k') := by
  cases k with
  | true => exact (pw_and ha (hb rfl)).imp fun σ H Q ⟨M, ok, q⟩ => ⟨M, ok, fun H' sm s => iteT ⟨M, ok.mono s, fun H2 sm2 s2 => q H2 sm2 (s.trans s2)⟩⟩
  | false =>
    refine ⟨fun wh pins s σ H Q I h => ?_⟩
    refine isTrue_and (thn (ha.run pins s σ H (fun c H1 => c = false ∧ Q false H1) I ?_) fun c s1 ⟨H1, I1, q1⟩ => ?_)
    · obtain ⟨M, ok, q⟩ := h
      exact ⟨M, ok, fun H' sm s => ⟨rfl, q H' sm s⟩⟩
    · obtain ⟨rfl, q1⟩ := q1
      exact ⟨H1, I1, q1⟩
theorem ew_or {rest : List Expr} (ha : EvT X C δ a k) (hb : k = false → EvW X C δ (.BoolOp .Or (b :: rest) pos) k') : EvW X C δ (.BoolOp .Or (a :: b :: rest) pos) (k || k') := by
  cases k with
  | false => exact (pw_or ha (hb rfl)).imp fun σ H Q ⟨M, ok, q⟩ => ⟨M, ok, fun H' sm s => iteF ⟨M, ok.mono s, fun H2 sm2 s2 => q H2 sm2 (s.trans s2)⟩⟩
  | true =>
    refine ⟨fun wh pins s σ H Q I h => ?_⟩
    refine isTrue_or (thn (ha.run pins s σ H (fun c H1 => c = true ∧ Q true H1) I ?_) fun c s1 ⟨H1, I1, q1⟩ => ?_)
    · obtain ⟨M, ok, q⟩ := h
      exact ⟨M, ok, fun H' sm s => ⟨rfl, q H' sm s⟩⟩
    · obtain ⟨rfl, q1⟩ := q1
      exact ⟨H1, I1, q1⟩
theorem EvW.t (h : EvW X C δ e k) : EvT X C δ e k := h.pt
theorem et_not (ha : EvT X C δ a k) : EvT X C δ (.UnaryOp .Not a pos) (!k) := (pt_not ha).imp fun σ H Q ⟨M, ok, q⟩ => ⟨M, ok, fun H' sm s => q H' sm s⟩
theorem ev_not (ha : Ev X C δ a (.bool k)) : Ev X C δ (.UnaryOp .Not a pos) (.bool (!k)) := Ev.mk (pe_not ha) fun M σ H Q ok q => ⟨M, ok, fun v H' sm s r => by
  cases r
  exact ⟨k, rfl, fun sm => q _ H' sm s (.bl _)⟩⟩
/-- a and b, a or b of truth values -/
theorem ev_one {op} (h : Ev X C δ a d) : Ev X C δ (.BoolOp op [a] pos) d := pe_one h
theorem ev_and {rest : List Expr} (ha : Ev X C δ a (.bool k)) (hb : k = true → Ev X C δ (.BoolOp .And (b :: rest) pos) (.bool k')) : Ev X C δ (.BoolOp .And (a :: b :: rest) pos) (.bool (k && k')) := by
  cases k with
  | true => exact Ev.mk (pe_and ha (hb rfl)) fun M σ H Q ok q => ⟨M, ok, fun v H' sm s r => by
      cases r
      exact ⟨true, rfl, iteT ⟨M, ok.mono s, fun w H2 sm2 s2 r2 sm3 => q w H2 sm3 (s.trans s2) r2⟩⟩⟩
  | false =>
    refine ⟨fun pins s σ H Q I h => ?_⟩
    obtain ⟨M, ok, q⟩ := h
    refine BoolOp_and (thn (ha.run pins s σ H (fun v H1 => v = .bl false ∧ Q (.bl false) H1) I ⟨M, ok, fun v H' sm s r => by cases r; exact ⟨rfl, q _ H' sm s (.bl _)⟩⟩) fun v s1 ⟨x, H1, I1, r1, q1⟩ => ?_)
    obtain ⟨rfl, q1⟩ := q1
    cases r1
    exact wpAny_truthy_bool ⟨.bl false, H1, I1, rfl, q1⟩
theorem ev_or {rest : List Expr} (ha : Ev X C δ a (.bool k)) (hb : k = false → Ev X C δ (.BoolOp .Or (b :: rest) pos) (.bool k')) : Ev X C δ (.BoolOp .Or (a :: b :: rest) pos) (.bool (k || k')) := by
  cases k with
  | false => exact Ev.mk (pe_or ha (hb rfl)) fun M σ H Q ok q => ⟨M, ok, fun v H' sm s r => by
      cases r
      exact ⟨false, rfl, iteF ⟨M, ok.mono s, fun w H2 sm2 s2 r2 sm3 => q w H2 sm3 (s.trans s2) r2⟩⟩⟩
  | true =>
    refine ⟨fun pins s σ H Q I h => ?_⟩
    obtain ⟨M, ok, q⟩ := h
    refine BoolOp_or (thn (ha.run pins s σ H (fun v H1 => v = .bl true ∧ Q (.bl true) H1) I ⟨M, ok, fun v H' sm s r => by cases r; exact ⟨rfl, q _ H' sm s (.bl _)⟩⟩) fun v s1 ⟨x, H1, I1, r1, q1⟩ => ?_)
    obtain ⟨rfl, q1⟩ := q1
    cases r1
    exact wpAny_truthy_bool ⟨.bl true, H1, I1, rfl, q1⟩
/-- a if c else b -/
theorem ev_if (hc : EvT X C δ c k) (ha : k = true → Ev X C δ a d) (hb : k = false → Ev X C δ b d) : Ev X C δ (.IfExp c a b pos) d := by
  refine ⟨fun pins s σ H Q I h => ?_⟩
  obtain ⟨M, ok, q⟩ := h
  refine wpAny_IfExp (thn (hc.run pins s σ H (fun k1 H1 => k1 = k ∧ Same H H1) I ⟨M, ok, fun H' sm s => ⟨rfl, s⟩⟩) fun d s1 ⟨H1, I1, e1, s01⟩ => ?_)
  subst e1
  cases d with
  | true => exact (ha rfl).run pins s1 σ H1 Q I1 ⟨M, ok.mono s01, fun v H2 sm2 s2 r => q v H2 sm2 (s01.trans s2) r⟩
  | false => exact (hb rfl).run pins s1 σ H1 Q I1 ⟨M, ok.mono s01, fun v H2 sm2 s2 r => q v H2 sm2 (s01.trans s2) r⟩
theorem ef_if (hc : EvT X C δ c k) (ha : k = true → EvF X C δ a ds) (hb : k = false → EvF X C δ b ds) : EvF X C δ (.IfExp c a b pos) ds := by
  refine ⟨fun pins s σ H Q I h => ?_⟩
  obtain ⟨M, ok, q⟩ := h
  refine wpAny_IfExp (thn (hc.run pins s σ H (fun k1 H1 => k1 = k ∧ Same H H1) I ⟨M, ok, fun H' sm s => ⟨rfl, s⟩⟩) fun d s1 ⟨H1, I1, e1, s01⟩ => ?_)
  subst e1
  cases d with
  | true => exact (ha rfl).run pins s1 σ H1 Q I1 ⟨M, ok.mono s01, fun l xs H2 sm2 s2 nl hl r => q l xs H2 sm2 (s01.trans s2) (Same.free s01 nl) hl r⟩
  | false => exact (hb rfl).run pins s1 σ H1 Q I1 ⟨M, ok.mono s01, fun l xs H2 sm2 s2 nl hl r => q l xs H2 sm2 (s01.trans s2) (Same.free s01 nl) hl r⟩
theorem pts0 : PTs X [] (tDt C δ true) := ⟨fun pins s σ H Q I ⟨M, ok, q⟩ => wpAny_tests_nil ⟨H, I, q H (Inv.small I) (Same.refl H)⟩⟩
theorem pts1 (h : EvT X C δ c k) : PTs X [c] (tDt C δ k) := pts_one h
end
end Kl
/-! KlHo: statements as triples; a def from its body. -/
namespace Kl
open PySem PySem.Spec PyProof.Rows L2
open C8 (Cal pe_c)

abbrev Ass := L2.St → Hp → Prop
def Kn (C : Cfg) (δ : Dl) : Ass := fun σ H => ∃ M, OkM C M δ σ H
def tP (Pre R : Ass) (Φ : VK) : TS := fun D σ H => Pre σ H ∧ (∀ σ' H', R σ' H' → D.nx σ' H') ∧ ∀ v H', Φ v H' → D.rt v H'
abbrev Ho (X : Cx) (Pre : Ass) (sts : List Stmt) (R : Ass) (Φ : VK) : Prop := PSs X sts (tP Pre R Φ)
abbrev Hs (X : Cx) (Pre : Ass) (st : Stmt) (R : Ass) (Φ : VK) : Prop := PS X st (tP Pre R Φ)
def No : Ass := fun _ _ => False
/-- what a def hands back -/
def Rt (C : Cfg) (d : PyData) : VK := fun v H' => (∀ a o, a ∉ C.B → C.H0 a = some o → H' a = some o) ∧ Rp (hid C.M0 H') v d
section
variable {X : Cx} {C : Cfg} {δ δ' δ2 : Dl} {a b c e tg : Expr} {es : List Expr} {d d1 d2 r : PyData} {ds ds1 ds2 : List PyData} {pos p : Pos} {k k' : Bool} {Pre Mid R : Ass} {Φ : VK} {st : Stmt} {rest sts : List Stmt}
theorem Kn.les (l : Les δ' δ) : ∀ σ H, Kn C δ σ H → Kn C δ' σ H := fun σ H ⟨M, ok⟩ => ⟨M, ok.les l⟩
theorem ho_nil (h : ∀ σ H, Pre σ H → R σ H) : Ho X Pre [] R Φ := pss_nil.imp fun D σ H q => q.2.1 σ H (h σ H q.1)
theorem ho_cons (h1 : Hs X Pre st Mid Φ) (h2 : Ho X Mid rest R Φ) : Ho X Pre (st :: rest) R Φ :=
  (pss_cons h1 h2).imp fun D σ H q => ⟨q.1, fun σ' H' m => ⟨m, q.2.1, q.2.2⟩, q.2.2⟩
theorem ho_one (h : Hs X Pre st R Φ) : Ho X Pre [st] R Φ := pss_one h
theorem hs_pre {Pre' : Ass} (h : Hs X Pre st R Φ) (i : ∀ σ H, Pre' σ H → Pre σ H) : Hs X Pre' st R Φ := h.imp fun D σ H q => ⟨i σ H q.1, q.2⟩
theorem ho_pre {Pre' : Ass} (h : Ho X Pre sts R Φ) (i : ∀ σ H, Pre' σ H → Pre σ H) : Ho X Pre' sts R Φ := h.imp fun D σ H q => ⟨i σ H q.1, q.2⟩
theorem ho_post {R' : Ass} (h : Ho X Pre sts R Φ) (i : ∀ σ H, R σ H → R' σ H) : Ho X Pre sts R' Φ := h.imp fun D σ H q => ⟨q.1, fun σ' H' m => q.2.1 σ' H' (i σ' H' m), q.2.2⟩
theorem ho_ex {α : Sort _} {Pre : α → Ass} (h : ∀ x, Ho X (Pre x) sts R Φ) : Ho X (fun σ H => ∃ x, Pre x σ H) sts R Φ := (PSs.ex h).imp fun D σ H ⟨⟨x, q⟩, q2⟩ => ⟨x, q, q2⟩
theorem ho_and {P : Prop} (h : P → Ho X Pre sts R Φ) : Ho X (fun σ H => P ∧ Pre σ H) sts R Φ := (PSs.ex h).imp fun D σ H ⟨⟨x, q⟩, q2⟩ => ⟨x, q, q2⟩
theorem ho_les (l : Les δ' δ) (h : Ho X (Kn C δ') sts R Φ) : Ho X (Kn C δ) sts R Φ := ho_pre h (Kn.les l)
/-- a list of one's own is from now on data -/
theorem OkM.freeze {M : List Addr} {σ : L2.St} {H : Hp} {i : Nat} (ok : OkM C M δ σ H) (h : δ[i]? = some (some (.own ds))) : ∃ M', OkM C M' (δ.set i (some (.dat (.list ds)))) σ H := by
  obtain ⟨v, hv, l, xs, rfl, hl, h0, hH, rr⟩ := ok.val i _ h
  have hl0 : l ∉ C.M0 := fun z => ok.t0.ne z h0
  have sub : ∀ m ∈ M.filter (fun m => decide (m ≠ l)), m ∈ M := fun m hm => (List.mem_filter.mp hm).1
  have out : ∀ m ∈ M, m ≠ l → m ∈ M.filter (fun m => decide (m ≠ l)) := fun m hm ne => List.mem_filter.mpr ⟨hm, decide_eq_true ne⟩
  have sh : Same (hid M H) (hid (M.filter (fun m => decide (m ≠ l))) H) := hid_sub sub
  refine ⟨M.filter (fun m => decide (m ≠ l)), ok.fr, ok.t0, ok.b0, fun m hm => out m (ok.sub m hm) (fun e => hl0 (by rw [← e]; exact hm)), fun m hm => ok.trk m (sub m hm), fun p hp => p.up sh (ok.pin p hp), by rw [List.length_set]; exact ok.len, fun j e q => ?_, fun j k u u' w h1 h2 h3 h4 h5 h6 => ?_⟩
  · rcases get_set_eq q with ⟨e1, e2, _⟩ | ⟨e1, e2⟩
    · cases e2
      subst e1
      refine ⟨.ref l, hv, .lst ?_ (rr.mono sh)⟩
      rw [hid_at (fun z => by have := (List.mem_filter.mp z).2; simp at this)]
      exact hH
    · obtain ⟨w, h1, h2⟩ := ok.val j e e2
      refine ⟨w, h1, ?_⟩
      have ne : isOwn e = true → w ≠ .ref l := fun ho z => e1 (ok.apart j i e (.own ds) w e2 h ho rfl h1 (by rw [z]; exact hv))
      cases e with
      | dat d => exact Rp.mono sh h2
      | own ds' =>
        obtain ⟨l', xs', rfl, q2, q3, q4, q5⟩ := h2
        exact ⟨l', xs', rfl, out _ q2 (fun z => ne rfl (by rw [z])), q3, q4, q5.mono sh⟩
      | tbl ks0 ds' =>
        obtain ⟨l', xs', rfl, q2, q3, q4, q5⟩ := h2
        exact ⟨l', xs', rfl, out _ q2 (fun z => ne rfl (by rw [z])), q3, q4, q5.mono sh⟩
      | dct L =>
        obtain ⟨l', rfl, q2, q3, q4, q5⟩ := h2
        exact ⟨l', rfl, out _ q2 (fun z => ne rfl (by rw [z])), q3, q4, q5⟩
      | box n =>
        obtain ⟨l', rfl, q2, q3, q4⟩ := h2
        exact ⟨l', rfl, out _ q2 (fun z => ne rfl (by rw [z])), q3, q4⟩
      | scr ns =>
        obtain ⟨l', q1, q2⟩ := h2
        exact ⟨l', q1, Same.seq sh q2⟩
  · rcases get_set_eq h1 with ⟨_, e2, _⟩ | ⟨e1, e2⟩
    · cases e2; cases h3
    · rcases get_set_eq h2 with ⟨_, f2, _⟩ | ⟨f1, f2⟩
      · cases f2; cases h4
      · exact ok.apart j k u u' w e2 f2 h3 h4 h5 h6
theorem ho_freeze (i : Nat) (h : δ[i]? = some (some (.own ds))) (hr : Ho X (Kn C (δ.set i (some (.dat (.list ds))))) sts R Φ) : Ho X (Kn C δ) sts R Φ := ho_pre hr fun σ H ⟨M, ok⟩ => ok.freeze h
/-- a list of one's own has changed -/
theorem OkM.write {M : List Addr} {σ : L2.St} {H : Hp} {i : Nat} {l : Addr} {ys : List V} (ok : OkM C M δ σ H) (h : δ[i]? = some (some (.own ds))) (hv : σ[i]? = some (some (.ref l))) (hl : l ∈ M) (h0 : C.H0 l = none) (rr : Rps (hid M H) ys ds2) : OkM C M (δ.set i (some (.own ds2))) σ (upd H l (.lst ys)) := by
  refine ⟨fun a o h1 h2 => ?_, ok.t0, ok.b0, ok.sub, fun m hm => ?_, fun p hp => by rw [hid_in hl]; exact ok.pin p hp, by rw [List.length_set]; exact ok.len, fun j e q => ?_, fun j k u u' w h1 h2 h3 h4 h5 h6 => ?_⟩
  · rw [upd_ne (fun z => by rw [z, h0] at h2; cases h2)]
    exact ok.fr a o h1 h2
  · by_cases e : m = l
    · rw [e, upd_same]; exact ⟨_, rfl, rfl⟩
    · rw [upd_ne e]; exact ok.trk m hm
  · have sh : hid M (upd H l (.lst ys)) = hid M H := hid_in hl
    rcases get_set_eq q with ⟨e1, e2, _⟩ | ⟨e1, e2⟩
    · cases e2
      subst e1
      exact ⟨.ref l, hv, l, ys, rfl, hl, h0, upd_same, by rw [sh]; exact rr⟩
    · obtain ⟨w, h1, h2⟩ := ok.val j e e2
      refine ⟨w, h1, ?_⟩
      have ne : isOwn e = true → w ≠ .ref l := fun ho z => e1 (ok.apart j i e (.own ds) w e2 h ho rfl h1 (by rw [z]; exact hv))
      cases e with
      | dat d => exact (by rw [sh]; exact h2 : Rp (hid M (upd H l (.lst ys))) w d)
      | own ds' =>
        obtain ⟨l', xs', rfl, q2, q3, q4, q5⟩ := h2
        exact ⟨l', xs', rfl, q2, q3, by rw [upd_ne (fun z => ne rfl (by rw [z]))]; exact q4, by rw [sh]; exact q5⟩
      | tbl ks0 ds' =>
        obtain ⟨l', xs', rfl, q2, q3, q4, q5⟩ := h2
        exact ⟨l', xs', rfl, q2, q3, by rw [upd_ne (fun z => ne rfl (by rw [z]))]; exact q4, by rw [sh]; exact q5⟩
      | dct L =>
        obtain ⟨l', rfl, q2, q3, q4, q5⟩ := h2
        exact ⟨l', rfl, q2, q3, q4, by rw [upd_ne (fun z => ne rfl (by rw [z]))]; exact q5⟩
      | box n =>
        obtain ⟨l', rfl, q2, q3, g, s, c, q4, q5⟩ := h2
        exact ⟨l', rfl, q2, q3, g, s, c, by rw [upd_ne (fun z => ne rfl (by rw [z]))]; exact q4, q5⟩
      | scr ns =>
        obtain ⟨l', q1, q2⟩ := h2
        exact ⟨l', q1, by rw [sh]; exact q2⟩
  · have z : ∀ (m : Nat) u, (δ.set i (some (.own ds2)))[m]? = some (some u) → isOwn u = true → ∃ u, δ[m]? = some (some u) ∧ isOwn u = true := fun m u q o => by
      rcases get_set_eq q with ⟨e1, e2, _⟩ | ⟨e1, e2⟩
      · rw [e1]; exact ⟨_, h, rfl⟩
      · exact ⟨u, e2, o⟩
    obtain ⟨u1, z1, z2⟩ := z j u h1 h3
    obtain ⟨u2, z3, z4⟩ := z k u' h2 h4
    exact ok.apart j k u1 u2 w z1 z3 z2 z4 h5 h6

/-! ### stores -/
/-- x = e -/
theorem hs_set (i : Nat) {x : Str} {pos' : Pos} (hN : X.N.Nodup) (he : Ev X C δ e d) (hi : X.N[i]? = some x := by rfl) (hx : Loc X.env.scope x := by first | exact Or.inl rfl | exact Or.inr rfl)
    (hs : swapsWith e (some (.Name x pos')) pos.line X.env = pure false := by rfl) (hf : X.fn x = true ∨ X.env.scope.names.lookup x = some .local := by first | exact .inl rfl | exact .inr rfl | assumption) :
    Hs X (Kn C δ) (.Assign [.Name x pos'] e pos) (Kn C (δ.set i (some (.dat d)))) Φ :=
  (ps_set hN hi hx he hs hf).imp fun D σ H ⟨⟨M, ok⟩, q, _⟩ => ⟨M, ok, fun v H' sm s r => q _ _ ⟨M, (ok.mono s).put rfl r⟩⟩
theorem OkM.putF {M : List Addr} {σ : L2.St} {H H' : Hp} {i : Nat} {l : Addr} {xs : List V} (ok : OkM C M δ σ H) (s : Same H H') (nl : H l = none) (hl : H' l = some (.lst xs)) (r : Rps (hid (l :: M) H') xs ds) : OkM C (l :: M) (δ.set i (some (.own ds))) (σ.set i (some (.ref l))) H' := by
  have ok1 : OkM C (l :: M) δ σ (upd H l (.lst xs)) := ok.more nl
  have ok2 : OkM C (l :: M) δ σ H' := ok1.mono fun b o q => by
    by_cases e : b = l
    · rw [e, upd_same] at q; cases q; rw [e]; exact hl
    · rw [upd_ne e] at q; exact s _ _ q
  refine ok2.putO (fun j u ne hj ho z => ?_) ⟨l, xs, rfl, List.mem_cons_self, ok.new0 nl (ok.outB nl), hl, r⟩
  obtain ⟨v, h1, h2⟩ := ok.val j u hj
  rw [h1] at z
  cases z
  have key : ∀ m ∈ M, m ≠ l := fun m hm e => ok.trk.ne hm (by rw [e]; exact nl)
  cases u with
  | dat d => cases ho
  | scr ns => cases ho
  | own ds' => obtain ⟨l', xs', e1, q2, _⟩ := h2; cases e1; exact key _ q2 rfl
  | tbl ks0 ds' => obtain ⟨l', xs', e1, q2, _⟩ := h2; cases e1; exact key _ q2 rfl
  | dct L => obtain ⟨l', e1, q2, _⟩ := h2; cases e1; exact key _ q2 rfl
  | box n => obtain ⟨l', e1, q2, _⟩ := h2; cases e1; exact key _ q2 rfl
/-- x = a new list, one's own -/
theorem hs_setF (i : Nat) {x : Str} {pos' : Pos} (hN : X.N.Nodup) (he : EvF X C δ e ds) (hi : X.N[i]? = some x := by rfl) (hx : Loc X.env.scope x := by first | exact Or.inl rfl | exact Or.inr rfl)
    (hs : swapsWith e (some (.Name x pos')) pos.line X.env = pure false := by rfl) (hf : X.fn x = true ∨ X.env.scope.names.lookup x = some .local := by first | exact .inl rfl | exact .inr rfl | assumption) :
    Hs X (Kn C δ) (.Assign [.Name x pos'] e pos) (Kn C (δ.set i (some (.own ds)))) Φ :=
  (ps_set hN hi hx he hs hf).imp fun D σ H ⟨⟨M, ok⟩, q, _⟩ => ⟨M, ok, fun l xs H' sm s nl hl r => q _ _ ⟨l :: M, ok.putF s nl hl r⟩⟩
theorem ef_nil : EvF X C δ (.List [] pos) [] := EvF.mk (pe_lst pa_nil) fun M σ H Q ok q => ⟨Nat.zero_le _, fun p hp sm => q p [] _ sm (same_new hp) hp upd_same .nil⟩
theorem ef_lst (h : EvA X C δ es ds) (hz : ds.length ≤ sizeLine := by first | decide | (simp only [List.length_cons, List.length_nil]; decide)) : EvF X C δ (.List es pos) ds :=
  EvF.mk (pe_lst h) fun M σ H Q ok q => ⟨M, ok, fun vs H' sm s r => ⟨by rw [r.length]; exact hz, fun p hp sm2 => q p vs _ sm2 (s.trans (same_new hp)) (Same.free s hp) upd_same (by
    have t := (ok.trk.mono s).out hp
    refine r.mono fun b o q => ?_
    obtain ⟨h1, h2⟩ := hid_of q
    have ne := ne_of_none h2 hp
    rw [hid_at (by simp only [List.mem_cons, not_or]; exact ⟨ne, h1⟩), upd_ne ne]
    exact h2)⟩⟩
/-- y = [..] -/
theorem hs_lc {α : Type} {xs : List α} {en : α → PyData} {pr : α → Bool} {f : α → PyData} {δx : α → Dl} {is : List Nat} {elt iter : Expr} {ifs : List Expr} {scope : Scope} (i : Nat) (own : List (Str × Nat)) {y : Str} {py spos : Pos} (hc : X.calm = true) (hN : X.N.Nodup)
    (hsw : swapsWith (.ListComp elt [⟨tg, iter, ifs, 0⟩] scope pos) (some (.Name y py)) spos.line X.env = pure true) (hi : EvI true X C δ tg iter (xs.map en)) (ok : BlkOk X.N X.env.scope scope own) (his : ∀ i ∈ is, i ∈ own.map (·.2))
    (hg : ∀ (s : Shared) (H : Hp) (Cc : Addr) (cl : List (Str × Addr)) (fp : List Addr) (x : α), EvG (X.blk s H scope (compEnvC scope cl Cc X.env) fp) C (wipeD δ (own.map (·.2))) tg (en x) (δx x) is)
    (ht : ∀ (s : Shared) (H : Hp) (Cc : Addr) (cl : List (Str × Addr)) (fp : List Addr) (x : α), x ∈ xs → PTs (X.blk s H scope (compEnvC scope cl Cc X.env) fp) ifs (tDt C (δx x) (pr x)))
    (he : ∀ (s : Shared) (H : Hp) (Cc : Addr) (cl : List (Str × Addr)) (fp : List Addr) (x : α), x ∈ xs → pr x = true → Ev (X.blk s H scope (compEnvC scope cl Cc X.env) fp) C (δx x) elt (f x))
    (hy : X.N[i]? = some y := by rfl) (hyl : X.env.scope.names.lookup y = some .local := by rfl) (hs : ∀ x, foldedSetIterable iter X.env x = pure x := by intro _; rfl) :
    Hs X (Kn C δ) (.Assign [.Name y py] (.ListComp elt [⟨tg, iter, ifs, 0⟩] scope pos) spos) (Kn C (δ.set i (some (.own ((xs.filter pr).map f))))) Φ :=
  (ps_setLc hc hN hy hyl hsw hi ok (fun s H Cc cl fp => PG.ex fun x => hg s H Cc cl fp x.1) (fun s H Cc cl fp => PTs.ex fun x => ht s H Cc cl fp x.1 x.2) (fun s H Cc cl fp => PE.ex fun x => he s H Cc cl fp x.1 x.2.1 x.2.2) hs).imp
    fun D σ H ⟨⟨M, ok⟩, q, _⟩ => lc_read his ok fun l zs H' s nl hl r => q _ _ ⟨l :: M, ok.putF s nl hl r⟩
/-- return -/
theorem hs_ret (he : Ev X C δ e d) : Hs X (Kn C δ) (.Return (some e) pos) R (Rt C d) :=
  (ps_ret he).imp fun D σ H ⟨⟨M, ok⟩, _, q⟩ => ⟨M, ok, fun v H' sm s r => q v H' ⟨(ok.mono s).fr, r.mono (hid_sub ok.sub)⟩⟩
theorem hs_if (hc : EvT X C δ c k) (ha : k = true → Ho X (Kn C δ) sts R Φ) (hb : k = false → Ho X (Kn C δ) rest R Φ) : Hs X (Kn C δ) (.If c sts rest pos) R Φ := by
  refine ⟨fun pins s σ H D I h => ?_⟩
  obtain ⟨⟨M, ok⟩, q, q2⟩ := h
  refine wpAny_If (thn (hc.run pins s σ H (fun k1 H1 => k1 = k ∧ Same H H1) I ⟨M, ok, fun H' sm s => ⟨rfl, s⟩⟩) fun d s1 ⟨H1, I1, e1, s01⟩ => ?_)
  subst e1
  cases d with
  | true => exact (ha rfl).run pins s1 σ H1 D I1 ⟨⟨M, ok.mono s01⟩, q, q2⟩
  | false => exact (hb rfl).run pins s1 σ H1 D I1 ⟨⟨M, ok.mono s01⟩, q, q2⟩
/-- if c: .. that hands back; then the rest -/
theorem ho_ifr (hc : EvT X C δ c k) (ha : k = true → Ho X (Kn C δ) sts No Φ) (hb : k = false → Ho X (Kn C δ) rest R Φ) : Ho X (Kn C δ) (.If c sts [] pos :: rest) R Φ := by
  cases k with
  | true => exact ho_cons (Mid := No) (hs_if hc (fun _ => ha rfl) fun z => nomatch z) ⟨fun _ _ _ _ _ _ h => h.1.elim⟩
  | false => exact ho_cons (Mid := Kn C δ) (hs_if hc (fun z => nomatch z) fun _ => ho_nil fun _ _ h => h) (hb rfl)
/-- for: inv by the turn and a thing that is told there -/
theorem hs_for {α G : Type} {xs : List α} {en : α → PyData} {iter : Expr} {body : List Stmt} {is : List Nat} {δx : Nat → G → α → Dl} (inv : Nat → G → Dl) (P : Nat → G → Prop) (g0 : G) (hc : X.calm = true) (hp : PassesOwn (model X.prog X.w) X.A X.env X.xe)
    (h0 : P 0 g0) (l0 : Les (inv 0 g0) δ) (hi : EvI false X C δ tg iter (xs.map en)) (hg : ∀ ps k g x, xs[k]? = some x → P k g → EvG X (C.pin ps) (inv k g) tg (en x) (δx k g x) is)
    (hb : ∀ ps k g x, xs[k]? = some x → P k g → Ho X (Kn (C.pin ps) (δx k g x)) body (fun σ H => ∃ g', P (k + 1) g' ∧ Kn (C.pin ps) (inv (k + 1) g') σ H) Φ) (hs : ∀ x, foldedSetIterable iter X.env x = pure x := by intro _; rfl) :
    Hs X (Kn C δ) (.For tg iter body [] pos) (fun σ H => ∃ g, P xs.length g ∧ Kn C (inv xs.length g) σ H) Φ := by
  have hb' : PSs X body (fun D σ H => ∃ z : { z : Nat × G × α × List Pin // xs[z.1]? = some z.2.2.1 ∧ P z.1 z.2.1 }, tP (Kn (C.pin z.1.2.2.2) (δx z.1.1 z.1.2.1 z.1.2.2.1)) (fun σ H => ∃ g', P (z.1.1 + 1) g' ∧ Kn (C.pin z.1.2.2.2) (inv (z.1.1 + 1) g') σ H) Φ D σ H) := PSs.ex fun z => hb _ _ _ _ z.2.1 z.2.2
  have hg' : PG X tg (fun v σ H Q => ∃ z : { z : Nat × G × α × List Pin // xs[z.1]? = some z.2.2.1 ∧ P z.1 z.2.1 }, tDg (C.pin z.1.2.2.2) (inv z.1.1 z.1.2.1) (en z.1.2.2.1) (δx z.1.1 z.1.2.1 z.1.2.2.1) is v σ H Q) := PG.ex fun z => hg _ _ _ _ z.2.1 z.2.2
  refine (ps_for hp hc hi hg' hb' hs).imp fun D σ H ⟨⟨M, ok⟩, q, q2⟩ => ⟨M, ok, fun J H1 sm1 s1 hy => ?_⟩
  obtain ⟨hz, ps, hps, hy⟩ := hy
  rw [List.length_map] at hz
  refine ⟨fun i m σ' H' => m = xs.length - i ∧ i ≤ xs.length ∧ ∃ g, P i g ∧ Kn (C.pin ps) (inv i g) σ' H', ⟨xs.length, by simp, Nat.zero_le _, g0, h0, M, ((ok.mono s1).les l0).pinned hps⟩, ?_⟩
  rintro i m σ2 H2 ⟨rfl, hi, g, pg, M2, ok2⟩
  obtain ⟨go, stop⟩ := hy M2 i H2 (fun p hp => ok2.pin p (List.mem_append_left _ hp)) (fun z => nomatch z) ok2.trk
  by_cases hlt : i < xs.length
  · have hx : xs[i]? = some xs[i] := List.getElem?_eq_getElem hlt
    generalize xs[i] = x at hx
    obtain ⟨g1, g2⟩ := go (en x) (by rw [List.getElem?_map, hx]; rfl)
    refine .inr ⟨g1, fun σ' H' => ∃ g', P (i + 1) g' ∧ Kn (C.pin ps) (inv (i + 1) g') σ' H', fun σ' H' ⟨g', h1, h2⟩ => ⟨xs.length - (i + 1), by omega, rfl, hlt, g', h1, h2⟩, fun v H3 hv => ?_⟩
    obtain ⟨s3, rx⟩ := g2 v H3 hv
    exact ⟨⟨(i, g, x, ps), hx, pg⟩, M2, ok2.mono s3, rx, fun σ3 o3 ok3 => ⟨⟨(i, g, x, ps), hx, pg⟩, ⟨M2, ok3⟩, fun σ' H' h => h, q2⟩⟩
  · have e : i = xs.length := by omega
    subst e
    exact .inl ⟨stop (by rw [List.length_map]), q _ _ ⟨g, pg, M2, ok2.unpin⟩⟩
end
end Kl
/-! KlFn: a def's promise from its body; subscripts, membership, built-ins. -/
namespace Kl
open PySem PySem.Spec PyProof.Rows L2
open C8 (Cal pe_c)

/-- a def of the text as it stands behind the top, by its name -/
structure Df (K : PySem.W.Frag) (mg : Str → Option Value) (x : Str) (ps : List Str) (st : Stmt) : Prop where
  ex : ∃ f fd, L2.Fun K x x st f fd ∧ mg x = some (.ref f) ∧ Binds K fd ps []
def dl (N : List Str) (ds : List PyData) : Dl := ds.map (fun d => some (.dat d)) ++ List.replicate (N.length - ds.length) none
theorem ok_start {K : PySem.W.Frag} {M : List Addr} {H : Hp} {N : List Str} {vs : List V} {ds : List PyData} (t : Trk M H) (r : Rps (hid M H) vs ds) : OkM ⟨K, H, M, [], []⟩ M (dl N ds) (L2.start N vs) H := by
  refine ⟨fun _ _ _ h => h, t, fun b hb => by simp at hb, fun _ h => h, t, fun p hp => by simp at hp, ?_, fun i e h => ?_, fun i j e e' v h1 h2 h3 h4 _ _ => ?_⟩
  · unfold dl L2.start
    rw [List.length_append, List.length_append, List.length_map, List.length_map, List.length_replicate, List.length_replicate, r.length]
    exact Nat.le_refl _
  · unfold dl at h
    by_cases hi : i < ds.length
    · rw [List.getElem?_append_left (by rw [List.length_map]; exact hi), List.getElem?_map] at h
      cases q : ds[i]? with
      | none => rw [q] at h; cases h
      | some d =>
        rw [q] at h
        cases h
        obtain ⟨v, hv, rv⟩ := r.get q
        refine ⟨v, ?_, rv⟩
        unfold L2.start
        rw [List.getElem?_append_left (by rw [List.length_map, r.length]; exact hi), List.getElem?_map, hv]
        rfl
    · rw [List.getElem?_append_right (by rw [List.length_map]; omega), List.getElem?_replicate] at h
      split at h <;> cases h
  · exfalso
    unfold dl at h1
    by_cases hi : i < ds.length
    · rw [List.getElem?_append_left (by rw [List.length_map]; exact hi), List.getElem?_map] at h1
      cases q : ds[i]? with
      | none => rw [q] at h1; cases h1
      | some d => rw [q] at h1; cases h1; cases h3
    · rw [List.getElem?_append_right (by rw [List.length_map]; omega), List.getElem?_replicate] at h1
      split at h1 <;> cases h1
section
variable {P : Program} {w : World} {K : PySem.W.Frag} {mg : Str → Option Value} {base : Heap}
/-- THE RULE for a def that only reckons -/
theorem cal_of {x : Str} {st : Stmt} {N ps : List Str} {k n : Nat} {S : List PyData → PyData → Prop} (F : Df K mg x ps st) (sc : FnScope N ps (defScope st)) (hn : ps.length = n)
    (hbody : ∀ (f : Addr) (cdv : Value) (A : Around) (outer : List Env) (s : Shared) (H : Hp) (E : XK) (M : List Addr), Room k (A.deeper (envOfC x (defScope st) s.heap.objs.size f cdv)) → ∀ ds r, S ds r →
      Ho (cxOf CX0 P w K mg base N x (defScope st) f cdv A outer s H E).nox (Kn ⟨K, H, M, [], []⟩ (dl N ds)) (defBody st) (fun _ H' => Rt ⟨K, H, M, [], []⟩ r .non H') (Rt ⟨K, H, M, [], []⟩ r)) : Cal P w K mg base (k + 1) x (spR n S) [] := by
  obtain ⟨f, fd, Ff, hm, hb⟩ := F.ex
  refine ⟨f, fd, ps, [], Ff.ok sc (fun vs H Q E h => h.1.trans hn.symm) (fun cdv A outer s H vs Q E hr h => ?_), hm, Ff.kp, hb, .nil⟩
  obtain ⟨_, M, ds, r, t, rs, hS, q⟩ := h
  exact ⟨_, hbody f cdv A outer s H E M hr ds r hS, ⟨M, ok_start t rs⟩, fun σ' H' z => q _ H' (fun a o h => z.1 a o (by simp) h) z.2, fun v H' z => q v H' (fun a o h => z.1 a o (by simp) h) z.2⟩
theorem ho_no {X : Cx} {Pre R : Ass} {Φ : VK} {sts : List Stmt} (h : Ho X Pre sts No Φ) : Ho X Pre sts R Φ := ho_post h fun _ _ z => z.elim
end
section
variable {X : Cx} {C : Cfg} {δ δ' δ2 : Dl} {a b c e tg : Expr} {es : List Expr} {d d1 d2 r : PyData} {ds ds1 ds2 : List PyData} {pos p : Pos} {k k' : Bool}
/-! ### subscripts -/
theorem ixN_of {n : Nat} {i : Int} {j : Nat} (h : ixN n i = some j) : j < n := (ixN_seq h).2.1
theorem Rps.at {H : Hp} {vs : List V} {ds : List PyData} {i : Int} {d : PyData} (r : Rps H vs ds) (h : atI ds i = some d) : ∃ v, atI vs i = some v ∧ Rp H v d := by
  unfold atI at h ⊢
  rw [r.length]
  cases q : ixN ds.length i with
  | none => rw [q] at h; cases h
  | some j =>
    rw [q] at h
    exact r.get (i := j) h
theorem ev_ixT {i : Int} (ha : Ev X C δ a (.tuple ds)) (hb : Ev X C δ b (.int i)) (hi : atI ds i = some d := by rfl) (hs : PlainIx b := by intro _ _; rfl) : Ev X C δ (.Subscript a b pos) d :=
  Ev.mk (pe_ix ix_tup ha hb hs) fun M σ H Q ok q => ⟨M, ok, fun x H1 sm s r1 => ⟨M, ok.mono s, fun y H2 sm2 s2 r2 => by
    cases r2
    cases r1 with
    | @tup p vs _ h r =>
      obtain ⟨v, hv, rv⟩ := (r.mono (hid_same s2)).at hi
      exact ⟨p, vs, i, v, rfl, rfl, SqT.of (s2 _ _ (hid_le _ _ h)), hv, fun sm3 => q v H2 sm3 (s.trans s2) rv⟩⟩⟩
theorem ev_ixL {i : Int} (ha : Ev X C δ a (.list ds)) (hb : Ev X C δ b (.int i)) (hi : atI ds i = some d := by rfl) (hs : PlainIx b := by intro _ _; rfl) : Ev X C δ (.Subscript a b pos) d :=
  Ev.mk (pe_ix ix_list ha hb hs) fun M σ H Q ok q => ⟨M, ok, fun x H1 sm s r1 => ⟨M, ok.mono s, fun y H2 sm2 s2 r2 => by
    cases r2
    cases r1 with
    | @lst p vs _ h r =>
      obtain ⟨v, hv, rv⟩ := (r.mono (hid_same s2)).at hi
      exact ⟨p, vs, i, v, rfl, rfl, SqL.of (s2 _ _ (hid_le _ _ h)), hv, fun sm3 => q v H2 sm3 (s.trans s2) rv⟩⟩⟩
theorem ev_ixS {i : Int} (ha : EvS X C δ a ds) (hb : Ev X C δ b (.int i)) (hi : atI ds i = some d) (hs : PlainIx b := by intro _ _; rfl) (hK : C.K = X.K := by rfl) : Ev X C δ (.Subscript a b pos) d :=
  Ev.mk (pe_ix ix_seq ha hb hs) fun M σ H Q ok q => ⟨M, ok, fun p vs H1 sm s hz hq r => ⟨M, ok.mono s, fun y H2 sm2 s2 r2 => by
    cases r2
    obtain ⟨v, hv, rv⟩ := (r.mono (hid_same s2)).at hi
    have hq := hq.mono s2
    rw [hK] at hq
    rcases hq with hq | hq
    · exact .inl ⟨p, vs, i, v, rfl, rfl, hq, hv, fun sm3 => q v H2 sm3 (s.trans s2) rv⟩
    · exact .inr (.inl ⟨p, vs, i, v, rfl, rfl, hq, hv, fun sm3 => q v H2 sm3 (s.trans s2) rv⟩)⟩⟩
/-! ### x in a row of texts -/
theorem inV_strs (x : Str) : ∀ ss : List Str, inV (.str x) (ss.map V.str) = decide (x ∈ ss)
  | [] => by simp [inV]
  | y :: r => by
    have ih := inV_strs x r
    unfold inV at ih ⊢
    rw [List.map_cons, List.any_cons, ih]
    by_cases e : y = x
    · subst e; simp [eqV]
    · have e' : ¬ x = y := fun z => e z.symm
      simp [eqV, e, e']
theorem flat_strs : ∀ ss : List Str, (ss.map V.str).all flatV = true
  | [] => rfl
  | y :: r => by rw [List.map_cons, List.all_cons, flat_strs r]; rfl
theorem et_in {x : Str} {ss : List Str} (ha : Ev X C δ a (.str x)) (hb : EvS X C δ b (ss.map .str)) (hm : behindInMarks .In b = false := by rfl) (hK : C.K = X.K := by rfl) : EvT X C δ (.Compare a [.In] [b] pos) (decide (x ∈ ss)) :=
  EvT.mk (pt_cmpR op_in_seq ha hb hm) fun M σ H Q ok q => ⟨M, ok, fun x H1 sm s r1 => ⟨M, ok.mono s, fun p vs H2 sm2 s2 hz hq r => by
    cases r1
    have e := r.strs
    subst e
    refine ⟨p, _, rfl, by rw [← hK]; exact hq, rfl, flat_strs _, _, rfl, fun sm3 => ?_⟩
    rw [inV_strs]
    exact q H2 sm3 (s.trans s2)⟩⟩
theorem et_nin {x : Str} {ss : List Str} (ha : Ev X C δ a (.str x)) (hb : EvS X C δ b (ss.map .str)) (hm : behindInMarks .NotIn b = false := by rfl) (hK : C.K = X.K := by rfl) : EvT X C δ (.Compare a [.NotIn] [b] pos) (!decide (x ∈ ss)) :=
  EvT.mk (pt_cmpR op_notIn_seq ha hb hm) fun M σ H Q ok q => ⟨M, ok, fun x H1 sm s r1 => ⟨M, ok.mono s, fun p vs H2 sm2 s2 hz hq r => by
    cases r1
    have e := r.strs
    subst e
    refine ⟨p, _, rfl, by rw [← hK]; exact hq, rfl, flat_strs _, _, rfl, fun sm3 => ?_⟩
    rw [inV_strs]
    exact q H2 sm3 (s.trans s2)⟩⟩
theorem ev_in {x : Str} {ss : List Str} (ha : Ev X C δ a (.str x)) (hb : EvS X C δ b (ss.map .str)) (hm : behindInMarks .In b = false := by rfl) (hK : C.K = X.K := by rfl) : Ev X C δ (.Compare a [.In] [b] pos) (.bool (decide (x ∈ ss))) :=
  Ev.mk (pe_cmpR op_in_seq ha hb hm) fun M σ H Q ok q => ⟨M, ok, fun x H1 sm s r1 => ⟨M, ok.mono s, fun p vs H2 sm2 s2 hz hq r => by
    cases r1
    have e := r.strs
    subst e
    refine ⟨p, _, rfl, by rw [← hK]; exact hq, rfl, flat_strs _, fun sm3 => ?_⟩
    rw [inV_strs]
    exact q _ H2 sm3 (s.trans s2) (.bl _)⟩⟩
/-! ### built-ins of one row -/
theorem ev_B1 {x : Str} {id : String} {rd : List V → Hp → VK → Prop} (hc : CallR X (.builtin id) rd) (ha : EvS X C δ a ds) (hm : X.mg x = none) (hv : bootBuiltins x = some (.builtin id))
    (hr : ∀ (M : List Addr) (H : Hp) (l : Addr) (vs : List V) (Q : VK), Trk M H → vs.length ≤ sizeLine → SqV X.K H l vs → Rps (hid M H) vs ds → (∀ v H', Same H H' → Rp (hid M H') v d → Q v H') → rd [.ref l] H Q) (hg : Gl X x := by rfl) (hK : C.K = X.K := by rfl)
    (hn : x ≠ "__name__" := by decide) (hdb : (x == ("__debug__" : Str)) = false := by decide) (he : starEach (a :: []) X.env = (false, eval a X.env) :: starEach [] X.env := by rfl) : Ev X C δ (.Call (.Name x p) [a] [] pos) d :=
  Ev.mk (pe_callB hc hg hm hv (pa_cons ha pa_nil he) hn hdb he) fun M σ H Q ok q => ⟨M, ok, fun l vs H1 sm s hz hq r => hr M H1 l vs _ (ok.mono s).trk hz (by rw [← hK]; exact hq) r fun v H2 s2 rv sm2 => q v H2 sm2 (s.trans s2) rv⟩
theorem ev_T1 {x : Str} {T : String} {rd : List V → Hp → VK → Prop} (hc : CallR X (.type T) rd) (ha : EvS X C δ a ds) (hm : X.mg x = none) (hv : bootBuiltins x = some (.type T))
    (hr : ∀ (M : List Addr) (H : Hp) (l : Addr) (vs : List V) (Q : VK), Trk M H → vs.length ≤ sizeLine → SqV X.K H l vs → Rps (hid M H) vs ds → (∀ v H', Same H H' → Rp (hid M H') v d → Q v H') → rd [.ref l] H Q) (hg : Gl X x := by rfl) (hK : C.K = X.K := by rfl)
    (hn : x ≠ "__name__" := by decide) (hdb : (x == ("__debug__" : Str)) = false := by decide) (he : starEach (a :: []) X.env = (false, eval a X.env) :: starEach [] X.env := by rfl) : Ev X C δ (.Call (.Name x p) [a] [] pos) d :=
  Ev.mk (pe_callTy hc hg hm hv (pa_cons ha pa_nil he) hn hdb he) fun M σ H Q ok q => ⟨M, ok, fun l vs H1 sm s hz hq r => hr M H1 l vs _ (ok.mono s).trk hz (by rw [← hK]; exact hq) r fun v H2 s2 rv sm2 => q v H2 sm2 (s.trans s2) rv⟩
theorem ev_len (hm : X.mg "len" = none) (ha : EvS X C δ a ds) (hg : Gl X "len" := by rfl) (hK : C.K = X.K := by rfl) (he : starEach (a :: []) X.env = (false, eval a X.env) :: starEach [] X.env := by rfl) : Ev X C δ (.Call (.Name "len" p) [a] [] pos) (.int ds.length) :=
  ev_B1 call_len_seq ha hm PySem.boot_len (fun M H l vs Q t hz hq r q => ⟨l, vs, rfl, hq, by rw [r.length]; exact q _ H (Same.refl H) (.int _)⟩) hg hK (by decide) (by decide) he
/-- sum, all, any: of a list of data -/
theorem sqL_of {K : PySem.W.Frag} {H : Hp} {l : Addr} {vs : List V} (h : H l = some (.lst vs)) : SqL K H l vs := SqL.of h
theorem ev_sum {ns : List Int} (hm : X.mg "sum" = none) (hc : X.calm = true) (ha : Ev X C δ a (.list (ns.map .int))) (hg : Gl X "sum" := by rfl) (he : starEach (a :: []) X.env = (false, eval a X.env) :: starEach [] X.env := by rfl) : Ev X C δ (.Call (.Name "sum" p) [a] [] pos) (.int ns.sum) :=
  Ev.mk (pe_callB (cr_sum hc) hg hm (by decide +kernel) (pa_cons ha pa_nil he) (he := he)) fun M σ H Q ok q => ⟨M, ok, fun v H1 sm s r => by
    cases r with
    | @lst l vs _ h r =>
      have e := r.ints
      subst e
      exact ⟨l, ns, rfl, SqL.of (hid_le _ _ h), fun sm2 => q _ H1 sm2 s (.int _)⟩⟩
theorem ev_all {bs : List Bool} (hm : X.mg "all" = none) (hc : X.calm = true) (ha : Ev X C δ a (.list (bs.map .bool))) (hg : Gl X "all" := by rfl) (he : starEach (a :: []) X.env = (false, eval a X.env) :: starEach [] X.env := by rfl) : Ev X C δ (.Call (.Name "all" p) [a] [] pos) (.bool (bs.all id)) :=
  Ev.mk (pe_callB (cr_all hc) hg hm (by decide +kernel) (pa_cons ha pa_nil he) (he := he)) fun M σ H Q ok q => ⟨M, ok, fun v H1 sm s r => by
    cases r with
    | @lst l vs _ h r =>
      have e := r.bools
      subst e
      exact ⟨l, bs, rfl, SqL.of (hid_le _ _ h), fun sm2 => q _ H1 sm2 s (.bl _)⟩⟩
theorem ev_any {bs : List Bool} (hm : X.mg "any" = none) (hc : X.calm = true) (ha : Ev X C δ a (.list (bs.map .bool))) (hg : Gl X "any" := by rfl) (he : starEach (a :: []) X.env = (false, eval a X.env) :: starEach [] X.env := by rfl) : Ev X C δ (.Call (.Name "any" p) [a] [] pos) (.bool (bs.any id)) :=
  Ev.mk (pe_callB (cr_any hc) hg hm (by decide +kernel) (pa_cons ha pa_nil he) (he := he)) fun M σ H Q ok q => ⟨M, ok, fun v H1 sm s r => by
    cases r with
    | @lst l vs _ h r =>
      have e := r.bools
      subst e
      exact ⟨l, bs, rfl, SqL.of (hid_le _ _ h), fun sm2 => q _ H1 sm2 s (.bl _)⟩⟩
/-- tuple(x) of a list -/
theorem ev_tupL (hm : X.mg "tuple" = none) (ha : Ev X C δ a (.list ds)) (hg : Gl X "tuple" := by rfl) (he : starEach (a :: []) X.env = (false, eval a X.env) :: starEach [] X.env := by rfl) : Ev X C δ (.Call (.Name "tuple" p) [a] [] pos) (.tuple ds) :=
  Ev.mk (pe_callTy call_tuple_of hg hm (by decide +kernel) (pa_cons ha pa_nil he) (he := he)) fun M σ H Q ok q => ⟨M, ok, fun v H1 sm s r => by
    cases r with
    | @lst l vs _ h r =>
      exact ⟨l, vs, rfl, .inl ⟨SqL.of (hid_le _ _ h), fun p hp sm2 => q _ _ sm2 (s.trans (same_new hp)) (rp_newT (ok.mono s).trk hp r)⟩⟩⟩
/-- list(x) -/
theorem new_hid {M : List Addr} {H : Hp} {p : Addr} {o : HO} (t : Trk M H) (hp : H p = none) : Same (hid M H) (hid (p :: M) (upd H p o)) := fun b u q => by
  obtain ⟨h1, h2⟩ := hid_of q
  have ne := ne_of_none h2 hp
  rw [hid_at (by simp only [List.mem_cons, not_or]; exact ⟨ne, h1⟩), upd_ne ne]
  exact h2
theorem ef_list (hm : X.mg "list" = none) (ha : EvS X C δ a ds) (hg : Gl X "list" := by rfl) (hK : C.K = X.K := by rfl) (he : starEach (a :: []) X.env = (false, eval a X.env) :: starEach [] X.env := by rfl) : EvF X C δ (.Call (.Name "list" p) [a] [] pos) ds :=
  EvF.mk (pe_callTy call_list_of hg hm (by decide +kernel) (pa_cons ha pa_nil he) (he := he)) fun M σ H Q ok q => ⟨M, ok, fun l vs H1 sm s hz hq r => ⟨l, vs, rfl, by rw [← hK]; exact hq, fun p hp sm2 => q p vs _ sm2 (s.trans (same_new hp)) (Same.free s hp) upd_same (r.mono (new_hid (ok.mono s).trk hp))⟩⟩
theorem fil_all {α : Type} (xs : List α) : xs.filter (fun _ => true) = xs := List.filter_eq_self.mpr fun _ _ => rfl
/-! ### comprehensions over names -/
section
variable {α : Type} {xs : List α} {en : α → PyData} {pr : α → Bool} {f : α → PyData} {elt iter cnd : Expr} {scope : Scope} {x y : Str} {pp pq pt pos : Pos}
theorem gnB {s : Shared} {H : Hp} {Cc : Addr} {cl : List (Str × Addr)} {fp : List Addr} {i : Nat} (nd : X.N.Nodup) (hNi : X.N[i]? = some x) (hx : Loc (X.blk s H scope (compEnvC scope cl Cc X.env) fp).env.scope x ∧ ((scope.names.lookup x == some .cell) = true ∨ (X.blk s H scope (compEnvC scope cl Cc X.env) fp).env.scope.names.lookup x = some .local)) :
    EvG (X.blk s H scope (compEnvC scope cl Cc X.env) fp) C δ (.Name x pp) d (δ.set i (some (.dat d))) [i] := gn i nd hNi hx.1 hx.2
/-- [elt for x in iter] -/
theorem ef_1 (i : Nat) (nd : X.N.Nodup) (hi : EvI true X C δ (.Name x pp) iter (xs.map en))
    (he : ∀ (s : Shared) (H : Hp) (Cc : Addr) (cl : List (Str × Addr)) (fp : List Addr) (v : α), v ∈ xs → Ev (X.blk s H scope (compEnvC scope cl Cc X.env) fp) C ((wipeD δ [i]).set i (some (.dat (en v)))) elt (f v))
    (hNi : X.N[i]? = some x := by rfl) (hx : ∀ s H Cc cl fp, Loc (X.blk s H scope (compEnvC scope cl Cc X.env) fp).env.scope x ∧ ((scope.names.lookup x == some .cell) = true ∨ (X.blk s H scope (compEnvC scope cl Cc X.env) fp).env.scope.names.lookup x = some .local) := by intro _ _ _ _ _; first | exact ⟨Or.inl rfl, Or.inr rfl⟩ | exact ⟨Or.inr rfl, Or.inl rfl⟩) (hc : X.calm = true := by rfl) (ok : BlkOk X.N X.env.scope scope [(x, i)] := by exact blkOk_by (by kernel_rfl)) (hs : ∀ x, foldedSetIterable iter X.env x = pure x := by intro _; rfl) :
    EvF X C δ (.ListComp elt [⟨.Name x pp, iter, [], 0⟩] scope pos) (xs.map f) :=
  (ef_lc (p := fun _ => true) [(x, i)] hc nd hi ok (by simp) (fun s H Cc cl fp v => gnB nd hNi (hx s H Cc cl fp)) (fun s H Cc cl fp v _ => pts0) (fun s H Cc cl fp v hv _ => he s H Cc cl fp v hv) hs).cast (by rw [fil_all])
/-- [elt for x in iter if cnd] -/
theorem ef_1t (i : Nat) (nd : X.N.Nodup) (hi : EvI true X C δ (.Name x pp) iter (xs.map en))
    (ht : ∀ (s : Shared) (H : Hp) (Cc : Addr) (cl : List (Str × Addr)) (fp : List Addr) (v : α), v ∈ xs → EvT (X.blk s H scope (compEnvC scope cl Cc X.env) fp) C ((wipeD δ [i]).set i (some (.dat (en v)))) cnd (pr v))
    (he : ∀ (s : Shared) (H : Hp) (Cc : Addr) (cl : List (Str × Addr)) (fp : List Addr) (v : α), v ∈ xs → pr v = true → Ev (X.blk s H scope (compEnvC scope cl Cc X.env) fp) C ((wipeD δ [i]).set i (some (.dat (en v)))) elt (f v))
    (hNi : X.N[i]? = some x := by rfl) (hx : ∀ s H Cc cl fp, Loc (X.blk s H scope (compEnvC scope cl Cc X.env) fp).env.scope x ∧ ((scope.names.lookup x == some .cell) = true ∨ (X.blk s H scope (compEnvC scope cl Cc X.env) fp).env.scope.names.lookup x = some .local) := by intro _ _ _ _ _; first | exact ⟨Or.inl rfl, Or.inr rfl⟩ | exact ⟨Or.inr rfl, Or.inl rfl⟩) (hc : X.calm = true := by rfl) (ok : BlkOk X.N X.env.scope scope [(x, i)] := by exact blkOk_by (by kernel_rfl)) (hs : ∀ x, foldedSetIterable iter X.env x = pure x := by intro _; rfl) :
    EvF X C δ (.ListComp elt [⟨.Name x pp, iter, [cnd], 0⟩] scope pos) ((xs.filter pr).map f) :=
  ef_lc [(x, i)] hc nd hi ok (by simp) (fun s H Cc cl fp v => gnB nd hNi (hx s H Cc cl fp)) (fun s H Cc cl fp v hv => pts1 (ht s H Cc cl fp v hv)) he hs
/-- y = [elt for x in iter] -/
theorem hs_1 {Φ : VK} {py spos : Pos} (j i : Nat) (nd : X.N.Nodup) (hi : EvI true X C δ (.Name x pp) iter (xs.map en))
    (he : ∀ (s : Shared) (H : Hp) (Cc : Addr) (cl : List (Str × Addr)) (fp : List Addr) (v : α), v ∈ xs → Ev (X.blk s H scope (compEnvC scope cl Cc X.env) fp) C ((wipeD δ [i]).set i (some (.dat (en v)))) elt (f v))
    (hNi : X.N[i]? = some x := by rfl) (hx : ∀ s H Cc cl fp, Loc (X.blk s H scope (compEnvC scope cl Cc X.env) fp).env.scope x ∧ ((scope.names.lookup x == some .cell) = true ∨ (X.blk s H scope (compEnvC scope cl Cc X.env) fp).env.scope.names.lookup x = some .local) := by intro _ _ _ _ _; first | exact ⟨Or.inl rfl, Or.inr rfl⟩ | exact ⟨Or.inr rfl, Or.inl rfl⟩) (hc : X.calm = true := by rfl) (ok : BlkOk X.N X.env.scope scope [(x, i)] := by exact blkOk_by (by kernel_rfl)) (hs : ∀ x, foldedSetIterable iter X.env x = pure x := by intro _; rfl)
    (hy : X.N[j]? = some y := by rfl) (hyl : X.env.scope.names.lookup y = some .local := by rfl) (hsw : swapsWith (.ListComp elt [⟨.Name x pp, iter, [], 0⟩] scope pos) (some (.Name y py)) spos.line X.env = pure true := by exact sw_true rfl rfl rfl (by kernel_rfl)) :
    Hs X (Kn C δ) (.Assign [.Name y py] (.ListComp elt [⟨.Name x pp, iter, [], 0⟩] scope pos) spos) (Kn C (δ.set j (some (.own (xs.map f))))) Φ := by
  have h := hs_lc (Φ := Φ) (pr := fun _ => true) j [(x, i)] hc nd hsw hi ok (by simp) (fun s H Cc cl fp v => gnB nd hNi (hx s H Cc cl fp)) (fun s H Cc cl fp v _ => pts0) (fun s H Cc cl fp v hv _ => he s H Cc cl fp v hv) hy hyl hs
  rw [fil_all] at h
  exact h
/-- y = [elt for x in iter if cnd] -/
theorem hs_1t {Φ : VK} {py spos : Pos} (j i : Nat) (nd : X.N.Nodup) (hi : EvI true X C δ (.Name x pp) iter (xs.map en))
    (ht : ∀ (s : Shared) (H : Hp) (Cc : Addr) (cl : List (Str × Addr)) (fp : List Addr) (v : α), v ∈ xs → EvT (X.blk s H scope (compEnvC scope cl Cc X.env) fp) C ((wipeD δ [i]).set i (some (.dat (en v)))) cnd (pr v))
    (he : ∀ (s : Shared) (H : Hp) (Cc : Addr) (cl : List (Str × Addr)) (fp : List Addr) (v : α), v ∈ xs → pr v = true → Ev (X.blk s H scope (compEnvC scope cl Cc X.env) fp) C ((wipeD δ [i]).set i (some (.dat (en v)))) elt (f v))
    (hNi : X.N[i]? = some x := by rfl) (hx : ∀ s H Cc cl fp, Loc (X.blk s H scope (compEnvC scope cl Cc X.env) fp).env.scope x ∧ ((scope.names.lookup x == some .cell) = true ∨ (X.blk s H scope (compEnvC scope cl Cc X.env) fp).env.scope.names.lookup x = some .local) := by intro _ _ _ _ _; first | exact ⟨Or.inl rfl, Or.inr rfl⟩ | exact ⟨Or.inr rfl, Or.inl rfl⟩) (hc : X.calm = true := by rfl) (ok : BlkOk X.N X.env.scope scope [(x, i)] := by exact blkOk_by (by kernel_rfl)) (hs : ∀ x, foldedSetIterable iter X.env x = pure x := by intro _; rfl)
    (hy : X.N[j]? = some y := by rfl) (hyl : X.env.scope.names.lookup y = some .local := by rfl) (hsw : swapsWith (.ListComp elt [⟨.Name x pp, iter, [cnd], 0⟩] scope pos) (some (.Name y py)) spos.line X.env = pure true := by exact sw_true rfl rfl rfl (by kernel_rfl)) :
    Hs X (Kn C δ) (.Assign [.Name y py] (.ListComp elt [⟨.Name x pp, iter, [cnd], 0⟩] scope pos) spos) (Kn C (δ.set j (some (.own ((xs.filter pr).map f))))) Φ :=
  hs_lc j [(x, i)] hc nd hsw hi ok (by simp) (fun s H Cc cl fp v => gnB nd hNi (hx s H Cc cl fp)) (fun s H Cc cl fp v hv => pts1 (ht s H Cc cl fp v hv)) he hy hyl hs
/-- two names -/
theorem gn2B {s : Shared} {H : Hp} {Cc : Addr} {cl : List (Str × Addr)} {fp : List Addr} {i j k : Nat} (hc : X.calm = true) (nd : X.N.Nodup) (hNi : X.N[i]? = some x) (hNj : X.N[j]? = some y)
    (hx : Loc (X.blk s H scope (compEnvC scope cl Cc X.env) fp).env.scope x ∧ ((scope.names.lookup x == some .cell) = true ∨ (X.blk s H scope (compEnvC scope cl Cc X.env) fp).env.scope.names.lookup x = some .local))
    (hy : Loc (X.blk s H scope (compEnvC scope cl Cc X.env) fp).env.scope y ∧ ((scope.names.lookup y == some .cell) = true ∨ (X.blk s H scope (compEnvC scope cl Cc X.env) fp).env.scope.names.lookup y = some .local)) :
    EvG (X.blk s H scope (compEnvC scope cl Cc X.env) fp) C δ (.Tuple [.Name x pp, .Name y pq] k pt) (.tuple [d1, d2]) ((δ.set i (some (.dat d1))).set j (some (.dat d2))) [i, j] :=
  gn2 hc (fun δ d => gnB nd hNi hx) (fun δ d => gnB nd hNj hy)
/-- [elt for x, y in iter] -/
theorem ef_2 {e1 e2 : α → PyData} {k : Nat} (i j : Nat) (nd : X.N.Nodup) (hi : EvI true X C δ (.Tuple [.Name x pp, .Name y pq] k pt) iter (xs.map fun v => .tuple [e1 v, e2 v]))
    (he : ∀ (s : Shared) (H : Hp) (Cc : Addr) (cl : List (Str × Addr)) (fp : List Addr) (v : α), v ∈ xs → Ev (X.blk s H scope (compEnvC scope cl Cc X.env) fp) C (((wipeD δ [i, j]).set i (some (.dat (e1 v)))).set j (some (.dat (e2 v)))) elt (f v))
    (hNi : X.N[i]? = some x := by rfl) (hNj : X.N[j]? = some y := by rfl) (hx : ∀ s H Cc cl fp, Loc (X.blk s H scope (compEnvC scope cl Cc X.env) fp).env.scope x ∧ ((scope.names.lookup x == some .cell) = true ∨ (X.blk s H scope (compEnvC scope cl Cc X.env) fp).env.scope.names.lookup x = some .local) := by intro _ _ _ _ _; first | exact ⟨Or.inl rfl, Or.inr rfl⟩ | exact ⟨Or.inr rfl, Or.inl rfl⟩) (hy : ∀ s H Cc cl fp, Loc (X.blk s H scope (compEnvC scope cl Cc X.env) fp).env.scope y ∧ ((scope.names.lookup y == some .cell) = true ∨ (X.blk s H scope (compEnvC scope cl Cc X.env) fp).env.scope.names.lookup y = some .local) := by intro _ _ _ _ _; first | exact ⟨Or.inl rfl, Or.inr rfl⟩ | exact ⟨Or.inr rfl, Or.inl rfl⟩) (hc : X.calm = true := by rfl) (ok : BlkOk X.N X.env.scope scope [(x, i), (y, j)] := by exact blkOk_by (by kernel_rfl)) (hs : ∀ x, foldedSetIterable iter X.env x = pure x := by intro _; rfl) :
    EvF X C δ (.ListComp elt [⟨.Tuple [.Name x pp, .Name y pq] k pt, iter, [], 0⟩] scope pos) (xs.map f) :=
  (ef_lc (p := fun _ => true) (δx := fun v => ((wipeD δ [i, j]).set i (some (.dat (e1 v)))).set j (some (.dat (e2 v)))) [(x, i), (y, j)] hc nd hi ok (is := [i, j]) (by simp) (fun s H Cc cl fp v => gn2B hc nd hNi hNj (hx s H Cc cl fp) (hy s H Cc cl fp)) (fun s H Cc cl fp v _ => pts0) (fun s H Cc cl fp v hv _ => he s H Cc cl fp v hv) hs).cast (by rw [fil_all])
/-- [elt for x, y in iter if cnd] -/
theorem ef_2t {e1 e2 : α → PyData} {k : Nat} (i j : Nat) (nd : X.N.Nodup) (hi : EvI true X C δ (.Tuple [.Name x pp, .Name y pq] k pt) iter (xs.map fun v => .tuple [e1 v, e2 v]))
    (ht : ∀ (s : Shared) (H : Hp) (Cc : Addr) (cl : List (Str × Addr)) (fp : List Addr) (v : α), v ∈ xs → EvT (X.blk s H scope (compEnvC scope cl Cc X.env) fp) C (((wipeD δ [i, j]).set i (some (.dat (e1 v)))).set j (some (.dat (e2 v)))) cnd (pr v))
    (he : ∀ (s : Shared) (H : Hp) (Cc : Addr) (cl : List (Str × Addr)) (fp : List Addr) (v : α), v ∈ xs → pr v = true → Ev (X.blk s H scope (compEnvC scope cl Cc X.env) fp) C (((wipeD δ [i, j]).set i (some (.dat (e1 v)))).set j (some (.dat (e2 v)))) elt (f v))
    (hNi : X.N[i]? = some x := by rfl) (hNj : X.N[j]? = some y := by rfl) (hx : ∀ s H Cc cl fp, Loc (X.blk s H scope (compEnvC scope cl Cc X.env) fp).env.scope x ∧ ((scope.names.lookup x == some .cell) = true ∨ (X.blk s H scope (compEnvC scope cl Cc X.env) fp).env.scope.names.lookup x = some .local) := by intro _ _ _ _ _; first | exact ⟨Or.inl rfl, Or.inr rfl⟩ | exact ⟨Or.inr rfl, Or.inl rfl⟩) (hy : ∀ s H Cc cl fp, Loc (X.blk s H scope (compEnvC scope cl Cc X.env) fp).env.scope y ∧ ((scope.names.lookup y == some .cell) = true ∨ (X.blk s H scope (compEnvC scope cl Cc X.env) fp).env.scope.names.lookup y = some .local) := by intro _ _ _ _ _; first | exact ⟨Or.inl rfl, Or.inr rfl⟩ | exact ⟨Or.inr rfl, Or.inl rfl⟩) (hc : X.calm = true := by rfl) (ok : BlkOk X.N X.env.scope scope [(x, i), (y, j)] := by exact blkOk_by (by kernel_rfl)) (hs : ∀ x, foldedSetIterable iter X.env x = pure x := by intro _; rfl) :
    EvF X C δ (.ListComp elt [⟨.Tuple [.Name x pp, .Name y pq] k pt, iter, [cnd], 0⟩] scope pos) ((xs.filter pr).map f) :=
  ef_lc (δx := fun v => ((wipeD δ [i, j]).set i (some (.dat (e1 v)))).set j (some (.dat (e2 v)))) [(x, i), (y, j)] hc nd hi ok (is := [i, j]) (by simp) (fun s H Cc cl fp v => gn2B hc nd hNi hNj (hx s H Cc cl fp) (hy s H Cc cl fp)) (fun s H Cc cl fp v hv => pts1 (ht s H Cc cl fp v hv)) he hs
end
end
end Kl
/-! KlOp: joining, stars, equality, walks over pairs, stores. -/
namespace Kl
open PySem PySem.Spec PyProof.Rows L2
open C8 (Cal pe_c)

/-- a list exactly, maybe one of one's own -/
def tDl (C : Cfg) (δ : Dl) (ds : List PyData) : TE := fun σ H Q => ∃ M, OkM C M δ σ H ∧ ∀ a vs H', Small H' → Same H H' → H' a = some (.lst vs) → Rps (hid M H') vs ds → Q (.ref a) H'
abbrev EvL (X : Cx) (C : Cfg) (δ : Dl) (e : Expr) (ds : List PyData) : Prop := PE X e (tDl C δ ds)
section
variable {X : Cx} {C : Cfg} {δ δ' δ2 : Dl} {a b c e tg : Expr} {es : List Expr} {d d1 d2 r : PyData} {ds ds1 ds2 : List PyData} {pos p : Pos} {k k' : Bool}
theorem Ev.lst (h : Ev X C δ e (.list ds)) : EvL X C δ e ds := h.imp fun σ H Q ⟨M, ok, q⟩ => ⟨M, ok, fun v H' sm s r => by
  cases r with
  | lst h r => exact q _ _ H' sm s (hid_le _ _ h) r⟩
theorem EvF.lst (h : EvF X C δ e ds) : EvL X C δ e ds := h.imp fun σ H Q ⟨M, ok, q⟩ => ⟨M, ok, fun l xs H' sm s nl hl r => q _ _ H' sm s hl (r.mono hid_cons)⟩
theorem EvL.seq (h : EvL X C δ e ds) : EvS X C δ e ds := h.imp fun σ H Q ⟨M, ok, q⟩ => ⟨M, ok, fun l xs H' sm s hl r => q _ _ H' sm s ((sm _).1 _ hl) (.inl (SqL.of hl)) r⟩
theorem nl (i : Nat) {x : Str} (hN : X.N[i]? = some x := by rfl) (hδ : δ[i]? = some (some (.own ds)) := by rfl) (hv : Vis X.env.scope x := by first | exact Or.inl rfl | exact Or.inr (Or.inl rfl) | exact Or.inr (Or.inr rfl))
    (hd : (x == ("__debug__" : Str)) = false := by decide) (hcd : (x == ("__classdict__" : Str)) = false := by decide) : EvL X C δ (.Name x pos) ds :=
  (PE.small (pe_var hN hv hd hcd)).imp fun σ H Q ⟨M, ok, q⟩ => by
    obtain ⟨v, h1, l, xs, e1, e2, e3, e4, e5⟩ := ok.val i _ hδ
    exact ⟨v, h1, fun sm => by rw [e1]; exact q l xs H sm (Same.refl H) e4 e5⟩
/-- list + list -/
theorem ef_cat (ha : EvL X C δ a ds1) (hb : EvL X C δ b ds2) (hz : ds1.length + ds2.length ≤ sizeLine) : EvF X C δ (.BinOp a .Add b pos) (ds1 ++ ds2) :=
  EvF.mk (pe_op op_cat ha hb) fun M σ H Q ok q => ⟨M, ok, fun l xs H1 sm s hl r1 => ⟨M, ok.mono s, fun l2 ys H2 sm2 s2 hl2 r2 => ⟨l, l2, xs, ys, rfl, rfl, s2 _ _ hl, hl2, by rw [r1.length, r2.length]; exact hz, fun p hp sm3 =>
    q p _ _ sm3 ((s.trans s2).trans (same_new hp)) (Same.free (s.trans s2) hp) upd_same (((r1.mono (hid_same s2)).append r2).mono (new_hid (ok.mono (s.trans s2)).trk hp))⟩⟩⟩
/-- tuple + tuple -/
theorem ev_catT (ha : Ev X C δ a (.tuple ds1)) (hb : Ev X C δ b (.tuple ds2)) (hz : ds1.length + ds2.length ≤ sizeLine) : Ev X C δ (.BinOp a .Add b pos) (.tuple (ds1 ++ ds2)) :=
  Ev.mk (pe_op op_catA ha hb) fun M σ H Q ok q => ⟨M, ok, fun x H1 sm s r1 => ⟨M, ok.mono s, fun y H2 sm2 s2 r2 => by
    have q1 := r1.mono (hid_same s2)
    have q1' := q1
    have r2' := r2
    cases q1 with
    | @tup l xs _ hl rr =>
      cases r2 with
      | @tup l2 ys _ hl2 rr2 =>
        refine ⟨l, l2, xs, ys, rfl, rfl, SqT.of (hid_le _ _ hl), SqT.of (hid_le _ _ hl2), by rw [rr.length, rr2.length]; exact hz, fun e sm3 => ?_, fun _ e sm3 => ?_, fun _ _ p hp sm3 => q _ _ sm3 ((s.trans s2).trans (same_new hp)) (rp_newT (ok.mono (s.trans s2)).trk hp (rr.append rr2))⟩
        · subst e
          cases rr
          exact q _ H2 sm3 (s.trans s2) r2'
        · subst e
          cases rr2
          rw [List.append_nil] at q
          exact q _ H2 sm3 (s.trans s2) q1'⟩⟩
/-- *e among arguments -/
theorem pa_star {te : TE} {t : TA} (he : PE X e te) (hr : PA X es t) (hs : starEach (.Starred e p :: es) X.env = (true, eval e X.env) :: starEach es X.env := by rfl) :
    PA X (.Starred e p :: es) (fun σ H Q => te σ H fun x H1 => ∃ l xs, x = .ref l ∧ SqV X.K H1 l xs ∧ t σ H1 fun ys H2 => Q (xs ++ ys) H2) := by
  refine ⟨fun pos pins s σ H Q I h => ?_⟩
  refine PySem.W.items_star (thn (he.run pins s σ H _ I h) fun v s1 ⟨x, H1, I1, r1, l, xs, ex, hq, q⟩ => ?_) hs
  subst ex
  cases r1
  have fin : ∀ (its : List Value), Vals xs its → ∀ h', (∀ b o', s1.heap.get? b = some o' → h'.get? b = some o') → wpAny (model X.prog X.w) X.A (spliced (backTo pos (starEach es X.env))) (fun vs s₃ => AP X pins σ Q (its ++ vs) s₃) X.xe { s1 with heap := h' } := fun its rv h' hk =>
    thn (hr.run pos pins _ σ H1 _ (I1.kept (t' := s1.toks) hk) q) fun us s2 ⟨ys, H2, I2, r2, q2⟩ => ⟨xs ++ ys, H2, I2, rv.append r2, q2⟩
  unfold PySem.W.StarOf notIterableAtAll
  rcases hq with hq | hq
  · obtain ⟨its, rv, ⟨o, n, e1, e2, e3, e4⟩, hz⟩ := I1.list hq
    have hT : s1.TypeIs (.ref l) "list" := ⟨o, e1, e2⟩
    refine wpAny_bind (wpAny_specialOf hT PySem.F.slot_list_iter.lookup (wpAny_pure ⟨rfl, ?_⟩))
    exact wpAny_collect_seq l (.inl rfl) e1 e2 e4 (fun h' hk => by rw [List.toList_toArray]; exact fin its rv h' hk) (by rw [List.size_toArray, ← rv.length]; exact hz)
  · obtain ⟨its, rv, ⟨o, e1, e2, n, e4⟩, hz⟩ := I1.tuple hq
    have hT : s1.TypeIs (.ref l) "tuple" := ⟨o, e1, e2⟩
    refine wpAny_bind (wpAny_specialOf hT PySem.F.slot_tuple_iter.lookup (wpAny_pure ⟨rfl, ?_⟩))
    exact wpAny_collect_seq l (.inr rfl) e1 e2 e4 (fun h' hk => by rw [List.toList_toArray]; exact fin its rv h' hk) (by rw [List.size_toArray, ← rv.length]; exact hz)
theorem ea_star (ha : EvS X C δ e ds1) (hr : EvA X C δ es ds2) (hs : starEach (.Starred e p :: es) X.env = (true, eval e X.env) :: starEach es X.env := by rfl) (hK : C.K = X.K := by rfl) : EvA X C δ (.Starred e p :: es) (ds1 ++ ds2) :=
  (pa_star ha hr hs).imp fun σ H Q ⟨M, ok, q⟩ => ⟨M, ok, fun l vs H1 sm s hz hq r => ⟨l, vs, rfl, by rw [← hK]; exact hq, M, ok.mono s, fun ys H2 sm2 s2 r2 => q _ H2 sm2 (s.trans s2) ((r.mono (hid_same s2)).append r2)⟩⟩
/-! ### equality of data -/
theorem od_eqD (h1 : SeqAt.shaped d1 = true) (h2 : SeqAt.shaped d2 = true) {K : PySem.W.Frag} : OpD (rEqD K) d1 d2 (.bool (PyData.eqv d1 d2)) := fun M H x y Q sm t r1 r2 q => by
  have c : ∀ {d : PyData}, SeqAt.shaped d = true → plD d = true := fun h => by
    unfold SeqAt.shaped at h
    rw [Bool.and_eq_true] at h
    exact pl_lay h.1
  exact ⟨d1, d2, (r1.mono hid_le).dp (c h1), (r2.mono hid_le).dp (c h2), h1, h2, q _ H (Same.refl H) (.bl _)⟩
theorem od_neD (h1 : SeqAt.shaped d1 = true) (h2 : SeqAt.shaped d2 = true) {K : PySem.W.Frag} : OpD (rNeD K) d1 d2 (.bool (!PyData.eqv d1 d2)) := fun M H x y Q sm t r1 r2 q => by
  have c : ∀ {d : PyData}, SeqAt.shaped d = true → plD d = true := fun h => by
    unfold SeqAt.shaped at h
    rw [Bool.and_eq_true] at h
    exact pl_lay h.1
  exact ⟨d1, d2, (r1.mono hid_le).dp (c h1), (r2.mono hid_le).dp (c h2), h1, h2, q _ H (Same.refl H) (.bl _)⟩
theorem et_eqD {n : Nat} (hr : Room n X.A) (ha : Ev X C δ a d1) (hb : Ev X C δ b d2) (h1 : SeqAt.shaped d1 = true) (h2 : SeqAt.shaped d2 = true) : EvT X C δ (.Compare a [.Eq] [b] pos) (PyData.eqv d1 d2) := et_cmp (op_eqD hr.units) ha hb (od_eqD h1 h2) (nomark _)
theorem ev_eqD {n : Nat} (hr : Room n X.A) (ha : Ev X C δ a d1) (hb : Ev X C δ b d2) (h1 : SeqAt.shaped d1 = true) (h2 : SeqAt.shaped d2 = true) : Ev X C δ (.Compare a [.Eq] [b] pos) (.bool (PyData.eqv d1 d2)) := ev_cmp (op_eqD hr.units) ha hb (od_eqD h1 h2) (nomark _)
theorem et_neD {n : Nat} (hr : Room n X.A) (ha : Ev X C δ a d1) (hb : Ev X C δ b d2) (h1 : SeqAt.shaped d1 = true) (h2 : SeqAt.shaped d2 = true) : EvT X C δ (.Compare a [.NotEq] [b] pos) (!PyData.eqv d1 d2) := et_cmp (op_neD hr.units) ha hb (od_neD h1 h2) (nomark _)
theorem ev_neD {n : Nat} (hr : Room n X.A) (ha : Ev X C δ a d1) (hb : Ev X C δ b d2) (h1 : SeqAt.shaped d1 = true) (h2 : SeqAt.shaped d2 = true) : Ev X C δ (.Compare a [.NotEq] [b] pos) (.bool (!PyData.eqv d1 d2)) := ev_cmp (op_neD hr.units) ha hb (od_neD h1 h2) (nomark _)
/-- is None -/
def isN : PyData → Bool
  | .none => true
  | _ => false
theorem isN_rp {H : Hp} {v : V} (r : Rp H v d) : decide (v = .non) = isN d := by
  cases r <;> simp [isN]
theorem et_isN {j} {pp : Pos} (ha : Ev X C δ a d) : EvT X C δ (.Compare a [.Is] [.Constant .none j pp] pos) (isN d) :=
  EvT.mk (pt_cmpR op_isN ha pe_non (nomark _)) fun M σ H Q ok q => ⟨M, ok, fun x H1 sm s r => ⟨rfl, _, rfl, fun sm3 => by rw [isN_rp r]; exact q H1 sm3 s⟩⟩
theorem ev_isN {j} {pp : Pos} (ha : Ev X C δ a d) : Ev X C δ (.Compare a [.Is] [.Constant .none j pp] pos) (.bool (isN d)) :=
  Ev.mk (pe_cmpR op_isN ha pe_non (nomark _)) fun M σ H Q ok q => ⟨M, ok, fun x H1 sm s r => ⟨rfl, fun sm3 => by rw [isN_rp r]; exact q _ H1 sm3 s (.bl _)⟩⟩
/-! ### append -/
theorem hs_append (i : Nat) {x : Str} {xp ap : Pos} {Φ : VK} (he : Ev X C δ e d) (hN : X.N[i]? = some x := by rfl) (hδ : δ[i]? = some (some (.own ds)) := by rfl) (hz : ds.length < sizeLine) (hv : Vis X.env.scope x := by first | exact Or.inl rfl | exact Or.inr (Or.inl rfl))
    (hd : (x == ("__debug__" : Str)) = false := by decide) (hcd : (x == ("__classdict__" : Str)) = false := by decide)
    (hm : PE X (.Call (.Attribute (.Name x xp) "append" ap) [e] [] p) (tBM X.K "list" rAppend (tVar i) (tCons (tD C δ d) tNil)))
    (hs : swapsWith (.Call (.Attribute (.Name x xp) "append" ap) [e] [] p) none pos.line X.env = pure false := by rfl) :
    Hs X (Kn C δ) (.Expr (.Call (.Attribute (.Name x xp) "append" ap) [e] [] p) pos) (Kn C (δ.set i (some (.own (ds ++ [d]))))) Φ :=
  (ps_expr hm hs).imp fun D σ H ⟨⟨M, ok⟩, q, _⟩ => by
    obtain ⟨v, h1, l, xs, e1, e2, e3, e4, e5⟩ := ok.val i _ hδ
    subst e1
    refine ⟨.ref l, h1, .inl ⟨rfl, _, .inl (.inl e4)⟩, M, ok, fun y H1 sm s ry => ?_⟩
    exact ⟨l, xs, y, rfl, rfl, s _ _ e4, by rw [e5.length]; exact hz, q _ _ ⟨M, (ok.mono s).write hδ h1 e2 e3 ((e5.mono (hid_same s)).append (.cons ry .nil))⟩⟩
end
end Kl
/-! KlSrt: sorting rows of tuples, () among them. -/
namespace Kl
open PySem PySem.Spec PyProof.Rows PySem.W
section
variable {prog : Program} {w : World} {A : Around} {E : Value → Shared → Prop} {s : Shared}
theorem each_right {α β : Type} {R : α → β → Prop} : ∀ {as : List α} {bs : List β}, EachIs R as bs → ∀ b ∈ bs, ∃ a ∈ as, R a b
  | _, _, .nil, b, h => by cases h
  | _, _, .cons h t, b, hb => by
    rcases List.mem_cons.mp hb with e | hb
    · subst e; exact ⟨_, List.mem_cons_self, h⟩
    · obtain ⟨a, h1, h2⟩ := each_right t b hb
      exact ⟨a, List.mem_cons_of_mem _ h1, h2⟩
theorem lt_general (x y : Value) : keyLt' general' x y = oneLt' false x y := rfl
theorem reads_tup {h : Heap} {v : Value} {xs : List PyData} {as : List Addr} (r : Reads h v (.tuple xs) as) : ∃ (a : Addr) (o : Obj) (its : Array Value) (n : Nat) (bs : List Addr), v = .ref a ∧ h.get? a = some o ∧ o.cls = .type "tuple" ∧ o.data = .seq its n ∧ ReadsAll h its.toList xs bs := by
  cases r with
  | tuple h1 h2 h3 h4 => exact ⟨_, _, _, _, _, rfl, h1, h2, h3, h4⟩
theorem one_lt_tup {xs ys : List PyData} {a b : Value} {as bs : List Addr} {Q : Bool → Shared → Prop} (ra : Reads s.heap a (.tuple xs) as) (rb : Reads s.heap b (.tuple ys) bs) (hal : alikeAll xs ys = true)
    (hu : A.units + min (PyData.tuple xs).depth (PyData.tuple ys).depth < cLine) (hq : Q (dataLt (.tuple xs) (.tuple ys)) s) : wpAny (model prog w) A (oneLt' true a b) Q E s := by
  obtain ⟨l, o, vs, n, as1, rfl, h1, h2, h3, h4⟩ := reads_tup ra
  obtain ⟨l', o', vs', n', bs1, rfl, k1, k2, k3, k4⟩ := reads_tup rb
  have n1 : vs.size = xs.length := by simpa using SeqAt.ReadsAll.length _ _ _ h4
  have n2 : vs'.size = ys.length := by simpa using SeqAt.ReadsAll.length _ _ _ k4
  rw [dataLt_tuple, ← firstLt_toks xs ys hal, ← n1, ← n2] at hq
  rw [oneLt'_eq]
  simp only [if_true]
  refine wpAny_bind (wpAny_cRoomFor (SeqAt.room_here hu) ?_)
  obtain ⟨cls, dd, data, sl⟩ := o
  obtain ⟨cls2, dd2, data2, sl2⟩ := o'
  simp only at h2 h3 k2 k3
  subst h2 h3 k2 k3
  refine wpAny_bind (wpAny_callSpecialIfBound?_slot (T := "tuple") ⟨_, h1, rfl⟩ F.slot_tuple_lt (call_meets F.slot_tuple_lt ⟨_, h1, rfl⟩ F.entry_tuple_lt (F.args_tuple_lt_2 _ _)
    (SeqAt.tuple_ltAt l l' vs vs' n n' dd dd2 sl sl2 (SeqAt.pairEq xs ys) (fun j => dataLt (xs.getD j .none) (ys.getD j .none))) ⟨h1, k1, fun j j1 j2 => ?_, fun j j1 j2 hj => ?_, ?_⟩))
  · have := eqAt_alikeAll xs ys A.in1 s vs.toList vs'.toList _ _ h4 k4 hal (SeqAt.room_in hu) j (by simpa using j1) (by simpa using j2)
    simpa using this
  · have := rcLt_alikeAll xs ys A.in1 s vs.toList vs'.toList _ _ h4 k4 hal (SeqAt.room_in hu) j (by simpa using j1) (by simpa using j2) hj
    simpa using this
  · exact wpAny_truthy_bool hq
/-- the first items that the look ahead of sorting asks for -/
theorem firsts_tup : ∀ {vs : List Value} {ds : List PyData} {Q : List (Option Value) → Shared → Prop}, EachIs (fun v d => ∃ as, Reads s.heap v d as) vs ds → (∀ d, d ∈ ds → ∃ xs, d = .tuple xs) →
    (∀ os, EachIs (fun (o : Option Value) d => o.isSome = true ↔ d ≠ .tuple []) os ds → Q os s) → wpAny (model prog w) A (vs.mapM firstOfTuple') Q E s
  | _, _, Q, .nil, _, h => by
    rw [List.mapM_nil]
    exact wpAny_pure (h [] .nil)
  | _, _, Q, .cons (b := d) ⟨as, r⟩ t, ht, h => by
    obtain ⟨xs, rfl⟩ := ht d (List.mem_cons_self ..)
    obtain ⟨a, o, its, n, bs, rfl, ho, hc, hd, ha⟩ := reads_tup r
    rw [List.mapM_cons]
    refine wpAny_bind ?_
    rw [kas_first_eq]
    refine wpAny_bind (Looks.here (show Looks _ s.heap (typeOf (.ref a)) o.cls from (Looks.ld ho).andThen .now) ?_)
    rw [hc, if_neg (by first | decide | simp)]
    refine wpAny_bind (listItems_at ho hd (wpAny_pure ?_))
    refine wpAny_bind (firsts_tup (Q := fun os s' => wpAny (model prog w) A (pure (its[0]? :: os)) Q E s') t (fun d hd => ht d (List.mem_cons_of_mem _ hd)) fun os hos => wpAny_pure (h _ (.cons ?_ hos)))
    have hl : its.size = xs.length := by simpa using SeqAt.ReadsAll.length _ _ _ ha
    cases xs with
    | nil =>
      have e : its[0]? = none := Array.getElem?_eq_none (by rw [hl]; exact Nat.le_refl _)
      rw [e]
      simp
    | cons x r =>
      have e : its[0]? = some (its[0]'(by rw [hl]; exact Nat.succ_pos _)) := Array.getElem?_eq_getElem (by rw [hl]; exact Nat.succ_pos _)
      rw [e]
      simp
theorem kind_tup {vs : List Value} {d0 : PyData} {ds : List PyData} {Q : SortKind → Shared → Prop} (e : EachIs (fun v d => ∃ as, Reads s.heap v d as) vs (d0 :: ds)) (ht : ∀ d, d ∈ d0 :: ds → ∃ xs, d = .tuple xs) (hno : PyData.tuple [] ∈ d0 :: ds)
    (h1 : d0 = .tuple [] → Q oneType' s) (h2 : d0 ≠ .tuple [] → Q general' s) : wpAny (model prog w) A (keyKind' vs.toArray) Q E s := by
  rw [keyKind'_eq, List.mapM_toArray, map_eq_pure_bind]
  refine wpAny_bind (wpAny_bind (firsts_tup e ht fun os hos => wpAny_pure ?_))
  have hall : (os.toArray.all fun x => x.isSome) = false := by
    rw [List.all_toArray]
    rw [Bool.eq_false_iff]
    intro z
    rw [List.all_eq_true] at z
    obtain ⟨o, ho, q⟩ := each_right hos _ hno
    exact (q.1 (z o ho)) rfl
  rw [if_neg (by rw [hall]; exact Bool.false_ne_true)]
  cases hos with
  | @cons o _ os' _ q t =>
    have hf : ((o :: os').toArray[0]?.bind id).isSome = o.isSome := by simp
    rw [hf]
    by_cases hd : d0 = .tuple []
    · have hn : o.isSome = false := by
        cases z : o.isSome with
        | false => rfl
        | true => exact absurd hd (q.1 z)
      rw [if_neg (by rw [hn]; exact Bool.false_ne_true)]
      rw [oneTypeOnly'_eq, List.mapM_toArray, map_eq_pure_bind]
      refine wpAny_bind (wpAny_bind (wpAny_bind (kas_mapM (r := Value.type "tuple") _ (fun v hv Q' hq => ?_) (wpAny_pure ?_))))
      · obtain ⟨d, hd', as, r⟩ := e.left v hv
        obtain ⟨xs, rfl⟩ := ht d hd'
        exact (looks_reads r).here hq
      · cases e with
        | @cons v _ vs' _ r t' =>
          have h0 : (List.map (fun _ => Value.type "tuple") (v :: vs')).toArray[0]? = some (Value.type "tuple") := by simp
          have hall2 : ((List.map (fun _ => Value.type "tuple") (v :: vs')).toArray.all fun x => x == Value.type "tuple") = true := by
            simp only [List.all_toArray, List.all_map, List.all_eq_true]
            intro _ _
            rfl
          rw [h0]
          simp only [hall2, if_true]
          exact wpAny_pure (wpAny_pure (h1 hd))
    · rw [if_pos (q.2 hd)]
      exact wpAny_pure (h2 hd)
/-- values that read as tuples that are alike, some of them empty, can be sorted -/
theorem sortsAt_tup {vs : List Value} {ds : List PyData} (e : EachIs (fun v d => ∃ as, Reads s.heap v d as) vs ds) (hal : AllAlike ds) (ht : ∀ d, d ∈ ds → ∃ xs, d = .tuple xs) (hu : ∀ d, d ∈ ds → A.units + d.depth < cLine) : SortsAt prog w A s (dataKind s.heap ds) vs := by
  by_cases hno : PyData.tuple [] ∈ ds
  · have room : ∀ {d d' : PyData}, d ∈ ds → A.units + min d.depth d'.depth < cLine := fun {d d'} hd => Nat.lt_of_le_of_lt (Nat.add_le_add_left (Nat.min_le_left _ _) _) (hu d hd)
    refine ⟨fun v hv => ?_, ?_⟩
    · obtain ⟨d, hd, as, r⟩ := e.left v hv
      exact ⟨_, dataKind_some hal hd r⟩
    · cases ds with
      | nil => cases hno
      | cons d0 ds =>
        by_cases h0 : d0 = .tuple []
        · refine ⟨oneType', ?_, fun h2 E Q hq => kind_tup e ht hno (fun _ => hq) fun z => absurd h0 z⟩
          intro E x y a b Q ha hb hq
          obtain ⟨d, as, hd, ra, rfl⟩ := dataKind_inv ha
          obtain ⟨d', as', hd', rb, rfl⟩ := dataKind_inv hb
          have hdd := hal d hd d' hd'
          have hroom := room (d' := d') hd
          obtain ⟨xs, rfl⟩ := ht d hd
          obtain ⟨ys, rfl⟩ := ht d' hd'
          rw [keyLt'_oneType]
          exact one_lt_tup ra rb (by simpa [alike] using hdd) hroom hq
        · refine ⟨general', ?_, fun h2 E Q hq => kind_tup e ht hno (fun z => absurd z h0) fun _ => hq⟩
          intro E x y a b Q ha hb hq
          obtain ⟨d, as, hd, ra, rfl⟩ := dataKind_inv ha
          obtain ⟨d', as', hd', rb, rfl⟩ := dataKind_inv hb
          have hdd := hal d hd d' hd'
          have hroom := room (d' := d') hd
          obtain ⟨xs, rfl⟩ := ht d hd
          rw [lt_general]
          exact oneLt_alike (fun z => nomatch z) ra rb hdd (by simp) hroom hq
  · refine SortsAt.data e hal (.inl fun d hd => ?_) hu
    obtain ⟨xs, rfl⟩ := ht d hd
    cases xs with
    | nil => exact absurd hd hno
    | cons x r => exact ⟨x, r, rfl⟩
end
end Kl
/-! KlSr2: sorted(a list of data). -/
namespace Kl
open PySem PySem.Spec PyProof.Rows L2 PySem.W

/-- Python's order of data, in a row -/
def sortD (ds : List PyData) : List PyData := ds.mergeSort (dataLe false id)
/-- what may be sorted -/
def Srtb (ds : List PyData) : Prop := AllAlike ds ∧ ((∀ d, d ∈ ds → ∃ xs, d = .tuple xs) ∨ Sortable ds) ∧ ∀ d, d ∈ ds → d.depth ≤ 40
theorem sortsAt_srtb {prog : Program} {w : World} {A : Around} {s : Shared} {vs : List Value} {ds : List PyData} (e : EachIs (fun v d => ∃ as, Reads s.heap v d as) vs ds) (h : Srtb ds) (hu : A.units + 41 < cLine) : SortsAt prog w A s (dataKind s.heap ds) vs := by
  obtain ⟨h1, h2, h3⟩ := h
  have hu' : ∀ d, d ∈ ds → A.units + d.depth < cLine := fun d hd => by
    have := h3 d hd
    omega
  rcases h2 with h2 | h2
  · exact sortsAt_tup e h1 h2 hu'
  · exact SortsAt.data e h1 h2 hu'
def rSortD (K : PySem.W.Frag) : List V → Hp → VK → Prop := fun vs H Q => ∃ (a : Addr) (xs : List V) (ds : List PyData), vs = [.ref a] ∧ SqL K H a xs ∧ DpAll K H xs ds ∧ Srtb ds ∧
  ∀ (zs : List (V × PyData)) p, zs.Perm (xs.zip ds) → zs.map (·.2) = sortD ds → H p = none → Q (.ref p) (upd H p (.lst (zs.map (·.1))))
section
variable {X : Cx} {pins : List (Addr × Obj)} {σ : L2.St} {H : Hp} {s : Shared}
theorem dp_len {K : PySem.W.Frag} {H : Hp} : ∀ {vs : List V} {ds : List PyData}, DpAll K H vs ds → vs.length = ds.length
  | _, _, .nil => rfl
  | _, _, .cons _ r => by rw [List.length_cons, List.length_cons, dp_len r]
theorem each_zip (I : Inv X pins σ H s) : ∀ {vs : List V} {us : List Value} {ds : List PyData}, Vals vs us → DpAll X.K H vs ds → EachIs (fun u (b : V × PyData) => RelV b.1 u) us (vs.zip ds) ∧ EachIs (fun u (b : V × PyData) => ∃ as, Reads s.heap u b.2 as) us (vs.zip ds)
  | _, _, _, .nil, .nil => ⟨.nil, .nil⟩
  | _, _, _, .cons r t, .cons h t' => by
    obtain ⟨h1, h2⟩ := each_zip I t t'
    exact ⟨.cons r h1, .cons (Dp.reads I _ _ _ h r) h2⟩
theorem vals_each : ∀ {us : List Value} {bs : List (V × PyData)}, EachIs (fun u (b : V × PyData) => RelV b.1 u) us bs → Vals (bs.map (·.1)) us
  | _, _, .nil => .nil
  | _, _, .cons r t => .cons r (vals_each t)
theorem each_snd {P : Value → PyData → Prop} : ∀ {us : List Value} {bs : List (V × PyData)}, EachIs (fun u (b : V × PyData) => P u b.2) us bs → EachIs P us (bs.map (·.2))
  | _, _, .nil => .nil
  | _, _, .cons r t => .cons r (each_snd t)
theorem cr_sortD (hu : X.A.units + 64 < cLine) : CallR X (.builtin "sorted") (rSortD X.K) := by
  intro pins s σ H vs us Q I r h
  obtain ⟨a, xs, ds, rfl, hs, hd, hk, q⟩ := h
  obtain ⟨its, rv, hl, hz⟩ := I.list hs
  rw [Vals.ref1 r]
  obtain ⟨e1, e2⟩ := each_zip I rv hd
  have em : (xs.zip ds).map (·.2) = ds := List.map_snd_zip (Nat.le_of_eq (dp_len hd).symm)
  have hlen : its.length = (xs.zip ds).length := e1.length
  have e2' : EachIs (fun u (b : V × PyData) => ∃ as, Reads (sortingHeap (copyHeap s.heap its) (s.heap.objs.size + 1) its) u b.2 as) its (xs.zip ds) := e2.mono fun _ _ ⟨as, r⟩ => ⟨as, PyProof.Rows.Reads.keeps (fun _ _ => sorting_copy_old) r⟩
  have S : SortsAt X.prog X.w X.A.in1.in1 { s with heap := sortingHeap (copyHeap s.heap its) (s.heap.objs.size + 1) its } (dataKind (sortingHeap (copyHeap s.heap its) (s.heap.objs.size + 1) its) ((xs.zip ds).map (·.2))) its := by
    refine sortsAt_srtb (s := { s with heap := sortingHeap (copyHeap s.heap its) (s.heap.objs.size + 1) its }) (each_snd e2') (by rw [em]; exact hk) ?_
    show X.A.units + 1 + 1 + 41 < cLine
    omega
  have hL : its.length ≤ sizeLine := by rw [← rv.length]; exact hz
  refine sorted_vals hl.isList S hL ?_
  have eo := sortVals_data (R := fun u (b : V × PyData) => RelV b.1 u) (enc := fun b : V × PyData => b.2) false e1 e2' (by rw [em]; exact hk.1)
  generalize hout : sortVals (dataKind (sortingHeap (copyHeap s.heap its) (s.heap.objs.size + 1) its) ((xs.zip ds).map (·.2))) false its its = out at eo ⊢
  obtain ⟨c, hc⟩ := PyProof.Rows.sortedAll_at s.heap its out.toArray
  have pz : ((xs.zip ds).mergeSort (dataLe false fun b : V × PyData => b.2)).Perm (xs.zip ds) := List.mergeSort_perm _ _
  have hn : ((xs.zip ds).mergeSort (dataLe false fun b : V × PyData => b.2)).length ≤ sizeLine := by rw [pz.length_eq, ← hlen]; exact hL
  refine ⟨.ref _, upd H (s.heap.objs.size + 1) (.lst (((xs.zip ds).mergeSort (dataLe false fun b : V × PyData => b.2)).map (·.1))), I.laid (t' := s.toks) (fun _ _ => PyProof.Rows.sortedAll_old) (Nat.le_succ _) ⟨by rw [List.length_map]; exact hn, out, c, vals_each eo, ?_⟩, rfl, q _ _ pz ?_ (I.hok.fresh (Nat.le_succ _))⟩
  · rw [hc]
  · unfold sortD
    have e3 := sort_maps (r := dataLe false fun b : V × PyData => b.2) (s := dataLe false (id : PyData → PyData)) (fun b : V × PyData => b.2) (l := xs.zip ds) (fun _ _ _ _ => rfl)
    rw [em] at e3
    exact e3
end
section
variable {X : Cx} {C : Cfg} {δ : Dl} {a : Expr} {ds : List PyData} {pos p : Pos}
theorem rps_zip {H : Hp} : ∀ {vs : List V} {ds : List PyData}, Rps H vs ds → ∀ b ∈ vs.zip ds, Rp H b.1 b.2
  | _, _, .nil, b, hb => by simp at hb
  | _, _, .cons h t, b, hb => by
    rw [List.zip_cons_cons] at hb
    rcases List.mem_cons.mp hb with e | hb
    · rw [e]; exact h
    · exact rps_zip t b hb
theorem rps_of {H : Hp} : ∀ {zs : List (V × PyData)}, (∀ b ∈ zs, Rp H b.1 b.2) → Rps H (zs.map (·.1)) (zs.map (·.2))
  | [], _ => .nil
  | z :: r, h => .cons (h z List.mem_cons_self) (rps_of fun b hb => h b (List.mem_cons_of_mem _ hb))
/-- sorted(a list of data) -/
theorem ef_sorted {n : Nat} (hr : Room n X.A) (hm : X.mg "sorted" = none) (ha : EvL X C δ a ds) (hk : Srtb ds) (hcl : plA ds = true) (hg : Gl X "sorted" := by rfl) (he : starEach (a :: []) X.env = (false, eval a X.env) :: starEach [] X.env := by rfl) : EvF X C δ (.Call (.Name "sorted" p) [a] [] pos) (sortD ds) :=
  EvF.mk (pe_callB (cr_sortD hr.units) hg hm (by decide +kernel) (pa_cons ha pa_nil he) (he := he)) fun M σ H Q ok q => ⟨M, ok, fun l vs H1 sm s hl r => ⟨l, vs, ds, rfl, SqL.of hl, (r.mono hid_le).dp hcl, hk, fun zs p pz ez hp sm2 => q p _ _ sm2 (s.trans (same_new hp)) (Same.free s hp) upd_same (by
    rw [← ez]
    exact (rps_of fun b hb => rps_zip r b (pz.mem_iff.mp hb)).mono (new_hid (ok.mono s).trk hp))⟩⟩
end
end Kl
/-! KlOrd: Python's order of texts and of tuples of texts; rows without repetition, rows in order. -/
namespace Kl
open PySem PySem.Spec PyProof.Rows L2 PySem.W

abbrev leD (a b : PyData) : Bool := dataLe false id a b
def InjE {β : Type} (enc : β → PyData) : Prop := ∀ a b, keyToks (enc a) = keyToks (enc b) → a = b
theorem leD_tot : TotalLe leD := sortLe_total _ _ _
theorem leD_anti {a b : PyData} (h1 : leD a b = true) (h2 : leD b a = true) : keyToks a = keyToks b := by
  have e1 : (listOrd itemOrd).blt (keyToks b) (keyToks a) = false := by simpa [leD, dataLe, sortLe] using h1
  have e2 : (listOrd itemOrd).blt (keyToks a) (keyToks b) = false := by simpa [leD, dataLe, sortLe] using h2
  exact (listOrd itemOrd).total _ _ e2 e1
theorem leD_refl (a : PyData) : leD a a = true := (leD_tot.total a a).elim id id
section
variable {β : Type} {le : β → β → Bool}
def ins (le : β → β → Bool) (x : β) : List β → List β
  | [] => [x]
  | y :: r => if le x y = true then x :: y :: r else y :: ins le x r
def isort (le : β → β → Bool) : List β → List β
  | [] => []
  | x :: r => ins le x (isort le r)
theorem ins_perm (x : β) : ∀ l : List β, (ins le x l).Perm (x :: l)
  | [] => List.Perm.refl _
  | y :: r => by
    unfold ins
    split
    · exact List.Perm.refl _
    · exact ((ins_perm x r).cons y).trans (List.Perm.swap x y r)
theorem isort_perm : ∀ l : List β, (isort le l).Perm l
  | [] => List.Perm.refl _
  | x :: r => (ins_perm x _).trans ((isort_perm r).cons x)
theorem ins_up (t : TotalLe le) (x : β) : ∀ l : List β, l.Pairwise (fun a b => le a b = true) → (ins le x l).Pairwise (fun a b => le a b = true)
  | [], _ => List.pairwise_singleton _ _
  | y :: r, h => by
    obtain ⟨h1, h2⟩ := List.pairwise_cons.mp h
    unfold ins
    split
    · rename_i c
      exact List.pairwise_cons.mpr ⟨fun z hz => (List.mem_cons.mp hz).elim (fun e => by rw [e]; exact c) fun hz => t.trans _ _ _ c (h1 z hz), h⟩
    · rename_i c
      refine List.pairwise_cons.mpr ⟨fun z hz => ?_, ins_up t x r h2⟩
      rcases List.mem_cons.mp ((ins_perm x r).mem_iff.mp hz) with e | hz
      · rw [e]; exact (t.total x y).resolve_left c
      · exact h1 z hz
theorem isort_up (t : TotalLe le) : ∀ l : List β, (isort le l).Pairwise (fun a b => le a b = true)
  | [] => List.Pairwise.nil
  | x :: r => ins_up t x _ (isort_up t r)
theorem up_uniq (anti : ∀ a b, le a b = true → le b a = true → a = b) : ∀ {l l' : List β}, l.Perm l' → l.Pairwise (fun a b => le a b = true) → l'.Pairwise (fun a b => le a b = true) → l = l'
  | [], l', p, _, _ => (List.nil_perm.mp p).symm
  | x :: r, [], p, _, _ => absurd p.length_eq (by simp)
  | x :: r, y :: t, p, h1, h2 => by
    obtain ⟨a1, a2⟩ := List.pairwise_cons.mp h1
    obtain ⟨b1, b2⟩ := List.pairwise_cons.mp h2
    have e : x = y := by
      rcases List.mem_cons.mp (p.mem_iff.mp List.mem_cons_self) with e | hx
      · exact e
      · rcases List.mem_cons.mp (p.mem_iff.mpr (List.mem_cons_self (a := y) (l := t))) with e | hy
        · exact e.symm
        · exact anti _ _ (a1 y hy) (b1 x hx)
    subst e
    rw [up_uniq anti (List.perm_cons x |>.mp p) a2 b2]
/-- the rows in Python's order -/
def srt (enc : β → PyData) (l : List β) : List β := isort (fun a b => leD (enc a) (enc b)) l
variable {enc : β → PyData}
theorem enc_tot : TotalLe (fun a b => leD (enc a) (enc b)) := ⟨fun a b c => leD_tot.trans _ _ _, fun a b => leD_tot.total _ _⟩
theorem enc_anti (i : InjE enc) (a b : β) (h1 : leD (enc a) (enc b) = true) (h2 : leD (enc b) (enc a) = true) : a = b := i _ _ (leD_anti h1 h2)
theorem srt_perm (l : List β) : (srt enc l).Perm l := isort_perm l
theorem srt_up (l : List β) : (srt enc l).Pairwise (fun a b => leD (enc a) (enc b) = true) := isort_up enc_tot l
theorem srt_eq (i : InjE enc) {l l' : List β} (p : l.Perm l') : srt enc l = srt enc l' := up_uniq (enc_anti i) ((srt_perm l).trans (p.trans (srt_perm l').symm)) (srt_up l) (srt_up l')
theorem srt_of (i : InjE enc) {l l' : List β} (p : l'.Perm l) (u : l'.Pairwise (fun a b => leD (enc a) (enc b) = true)) : l' = srt enc l := up_uniq (enc_anti i) (p.trans (srt_perm l).symm) u (srt_up l)
theorem sortD_srt (i : InjE enc) (l : List β) : sortD (l.map enc) = (srt enc l).map enc := by
  have e : sortD (l.map enc) = (l.mergeSort (fun a b => leD (enc a) (enc b))).map enc := (sort_maps enc (fun _ _ _ _ => rfl)).symm
  rw [e]
  congr 1
  refine srt_of i (List.mergeSort_perm _ _) ?_
  have z := List.pairwise_mergeSort (le := fun a b => leD (enc a) (enc b)) (fun a b c => leD_tot.trans _ _ _) (fun a b => by
    rcases leD_tot.total (enc a) (enc b) with h | h <;> simp [h]) l
  exact z
theorem mem_srt {x : β} {l : List β} : x ∈ srt enc l ↔ x ∈ l := (srt_perm l).mem_iff
theorem len_srt (l : List β) : (srt enc l).length = l.length := (srt_perm l).length_eq
theorem srt_nd {l : List β} : (srt enc l).Nodup ↔ l.Nodup := (srt_perm l).nodup_iff
/-- without repetition -/
def nub [DecidableEq β] : List β → List β
  | [] => []
  | x :: r => if x ∈ r then nub r else x :: nub r
variable [DecidableEq β]
theorem mem_nub {x : β} : ∀ {l : List β}, x ∈ nub l ↔ x ∈ l
  | [] => by simp [nub]
  | y :: r => by
    unfold nub
    split
    · rename_i h
      rw [mem_nub, List.mem_cons]
      exact ⟨.inr, fun z => z.elim (fun e => by rw [e]; exact h) id⟩
    · rw [List.mem_cons, List.mem_cons, mem_nub]
theorem nub_nd : ∀ l : List β, (nub l).Nodup
  | [] => List.nodup_nil
  | y :: r => by
    unfold nub
    split
    · exact nub_nd r
    · rename_i h
      exact List.nodup_cons.mpr ⟨fun z => h (mem_nub.mp z), nub_nd r⟩
theorem nub_id : ∀ {l : List β}, l.Nodup → nub l = l
  | [], _ => rfl
  | y :: r, h => by
    obtain ⟨h1, h2⟩ := List.nodup_cons.mp h
    unfold nub
    rw [if_neg h1, nub_id h2]
theorem nd_perm {l l' : List β} (h1 : l.Nodup) (h2 : l'.Nodup) (e : ∀ x, x ∈ l ↔ x ∈ l') : l.Perm l' := by
  exact (List.perm_ext_iff_of_nodup h1 h2).mpr e
theorem nub_perm {l l' : List β} (h : l.Nodup) (e : ∀ x, x ∈ l ↔ x ∈ l') : l.Perm (nub l') := nd_perm h (nub_nd l') fun x => (e x).trans mem_nub.symm
/-- the set of a row, in order -/
def setS (enc : β → PyData) (l : List β) : List β := srt enc (nub l)
theorem mem_setS {x : β} {l : List β} : x ∈ setS enc l ↔ x ∈ l := mem_srt.trans mem_nub
theorem setS_nd (l : List β) : (setS enc l).Nodup := srt_nd.mpr (nub_nd l)
theorem setS_congr (i : InjE enc) {l l' : List β} (e : ∀ x, x ∈ l ↔ x ∈ l') : setS enc l = setS enc l' := srt_eq i (nd_perm (nub_nd l) (nub_nd l') fun x => mem_nub.trans ((e x).trans mem_nub.symm))
theorem setS_of (i : InjE enc) {l l' : List β} (u : l'.Pairwise (fun a b => leD (enc a) (enc b) = true)) (nd : l'.Nodup) (e : ∀ x, x ∈ l' ↔ x ∈ l) : l' = setS enc l := srt_of i (nub_perm nd e) u
end
theorem inj_str : InjE PyData.str := fun a b h => by
  have e : a.cps.toList = b.cps.toList := by simpa [keyToks] using h
  cases a; cases b
  congr 1
  exact Array.toList_inj.mp e
theorem inj_eK : InjE eK := fun a => by
  induction a with
  | nil =>
    intro b h
    cases b with
    | nil => rfl
    | cons y r => simp [eK, keyToks, keyToksAll] at h
  | cons x r ih =>
    intro b h
    cases b with
    | nil => simp [eK, keyToks, keyToksAll] at h
    | cons y t =>
      simp only [eK, List.map_cons, keyToks, keyToksAll, List.cons_append, List.nil_append, List.cons.injEq, true_and] at h
      have e1 : x = y := inj_str x y (by simpa [keyToks] using h.1)
      have e2 : r = t := ih t (by simpa [eK, keyToks] using h.2)
      rw [e1, e2]
theorem alike_texts : ∀ (a b : List Str), alikeAll (a.map .str) (b.map .str) = true
  | [], _ => by simp [alikeAll]
  | _ :: _, [] => by simp [alikeAll]
  | x :: r, y :: t => by simp [alikeAll, alike, alike_texts r t]
theorem depth_texts : ∀ (a : List Str), (eK a).depth ≤ 2
  | a => by
    have : ∀ l : List Str, PyData.depthAll (l.map .str) ≤ 1 := fun l => by
      induction l with
      | nil => simp [PyData.depthAll]
      | cons x r ih => simp [PyData.depthAll, PyData.depth]; omega
    have := this a
    simp [eK, PyData.depth]
    omega
theorem srtb_str (l : List Str) : Srtb (l.map .str) := by
  refine ⟨fun d h d' h' => ?_, .inr (.inr fun d h => ?_), fun d h => ?_⟩ <;> obtain ⟨x, _, rfl⟩ := List.mem_map.mp h
  · obtain ⟨y, _, rfl⟩ := List.mem_map.mp h'
    rfl
  · exact ⟨nofun, fun _ => nofun⟩
  · simp [PyData.depth]
theorem srtb_eK (l : List (List Str)) : Srtb (l.map eK) := by
  refine ⟨fun d h d' h' => ?_, .inl fun d h => ?_, fun d h => ?_⟩ <;> obtain ⟨x, _, rfl⟩ := List.mem_map.mp h
  · obtain ⟨y, _, rfl⟩ := List.mem_map.mp h'
    simp only [eK, alike]
    exact alike_texts x y
  · exact ⟨_, rfl⟩
  · exact Nat.le_trans (depth_texts x) (by decide)
theorem lay_texts : ∀ l : List Str, plA (l.map .str) = true
  | [] => rfl
  | x :: r => by simp [plA, plD, lay_texts r]
theorem lay_eK : ∀ l : List (List Str), plA (l.map eK) = true
  | [] => rfl
  | x :: r => by simp [plA, plD, eK, lay_texts x, lay_eK r]
end Kl
/-! KlTup: sets of texts, sets of tuples of texts: what holds of them, one more is added. -/
namespace Kl
open PySem PySem.Spec PyProof.Rows L2

abbrev Gro (h h' : Heap) : Prop := ∀ c u, h.get? c = some u → h'.get? c = some u
abbrev newS (w : World) : Obj := { cls := .type "set", dict := none, data := .set #[] 0 (.fresh 0 0 (!w.params.followText "set-order")) }
abbrev Led (w : World) (t : SetTable) : Prop := w.params.followText "set-order" = true ∨ t.led = true
theorem led_new (w : World) : Led w (.fresh 0 0 (!w.params.followText "set-order")) := by
  by_cases c : w.params.followText "set-order" = true
  · exact .inl c
  · exact .inr (by show (!w.params.followText "set-order") = true; simp [c])
/-- a kind of things that a set may hold -/
structure SKind (P : Program) (w : World) (α : Type) where
  At : Heap → α → Value → Prop
  Has : Heap → Addr → List (Value × α) → Prop
  keep : ∀ {h h' : Heap} {k : α} {v : Value}, At h k v → Gro h h' → At h' k v
  held : ∀ {h : Heap} {b : Addr} {L : List (Value × α)}, Has h b L → ∀ p ∈ L, At h p.2 p.1
  hkeep : ∀ {h h' : Heap} {b : Addr} {L : List (Value × α)}, Has h b L → (∀ u, h.get? b = some u → h'.get? b = some u) → (∀ p ∈ L, At h' p.2 p.1) → Has h' b L
  fresh : ∀ {h : Heap} {b : Addr}, h.get? b = some (newS w) → Has h b []
  add : ∀ {A : Around} {E : Value → Shared → Prop} {s : Shared} {b : Addr} {L : List (Value × α)} {x : Value} {k : α} {Q : Bool → Shared → Prop}, A.units < cLine → Has s.heap b L → At s.heap k x → L.length + 1 < 64 →
    (∀ r h' L' n, s.toks ≤ n → Heap.SameBut b s.heap h' → Has h' b L' → (k ∈ L.map (·.2) → L' = L) → (k ∉ L.map (·.2) → L'.Perm ((x, k) :: L)) → Q r { s with heap := h', toks := n }) → wpAny (model P w) A (setAdd b x) Q E s
  out : ∀ {h : Heap} {b : Addr} {L : List (Value × α)}, Has h b L → ∃ es ep t, SetAt h b es ep t ∧ t.fits es.size = true ∧ es.size < 64 ∧ Ris t.place.toList ∧ Led w t ∧ (es.toList.map (·.2)).Perm (L.map (·.1))

/-! ### tuples of texts: what a search asks of them -/
section
variable {P : Program} {w : World} {A : Around} {E : Value → Shared → Prop} {s : Shared}
abbrev TuAt (P : Program) (w : World) (h : Heap) (k : List Str) (a : Addr) : Prop := IsTupleKey (strKind P w) h k a
abbrev tuH (P : Program) (w : World) (k : List Str) : Int := tupleKeyHash (strKind P w) k
theorem str_items {k : List Str} {us : List Value} (h : ItemsAre (strKind P w) k us) : ∀ u ∈ us, ∃ x t, u = Value.str x t := by
  induction h with
  | nil => intro u z; exact absurd z (by simp)
  | cons h1 _ ih =>
    intro u z
    rcases List.mem_cons.mp z with rfl | z
    · obtain ⟨t, e⟩ := Value.isStrOf_shape h1
      exact ⟨_, t, e⟩
    · exact ih u z
theorem cls_str (n : Nat) (x : Str) (t : Tok) : ofAClassStatement n (.str x t) = pure false := by cases n <;> rfl
theorem val_str (n : Nat) (x : Str) (t : Tok) : hashByValue n (.str x t) = pure false := by cases n <;> rfl
theorem cls_loop : ∀ {us : List Value} {Q : Option Bool × Unit → Shared → Prop}, (∀ u ∈ us, ∃ x t, u = Value.str x t) → Q (none, ()) s →
    wpAny (model P w) A (forIn us ((none, ()) : Option Bool × Unit) fun y _ => do
      let c ← ofAClassStatement 7 y
      if c = true then pure (ForInStep.done (some true, ())) else pure (ForInStep.yield (none, ()))) Q E s
  | [], Q, _, q => wpAny_pure q
  | u :: us, Q, h, q => by
    obtain ⟨x, t, rfl⟩ := h u List.mem_cons_self
    rw [List.forIn_cons, cls_str]
    exact wpAny_bind (wpAny_bind (wpAny_pure (wpAny_pure (cls_loop (fun v hv => h v (List.mem_cons_of_mem _ hv)) q))))
theorem cls_tu {k : List Str} {c : Addr} {Q : Bool → Shared → Prop} (hk : TuAt P w s.heap k c) (q : Q false s) : wpAny (model P w) A (ofAClassStatement 8 (.ref c)) Q E s := by
  have ty := hk.typeIs
  obtain ⟨ob, us, n, ho, _, hd, hi⟩ := hk
  unfold ofAClassStatement
  refine wpAny_bind (wpAny_typeOf ty ?_)
  simp only [show (("tuple" : String) == "tuple") = true from by decide, if_true, Bool.not_true, Bool.false_eq_true, if_false]
  refine wpAny_bind (wpAny_pure ?_)
  try simp only [Bool.not_true, Bool.false_eq_true, if_false]
  refine wpAny_bind (wpAny_seqItems (a := c) ho hd ?_)
  dsimp only
  rw [← Array.forIn_toList]
  exact wpAny_bind (cls_loop (str_items hi) (wpAny_pure q))
theorem val_tu {k : List Str} {c : Addr} {Q : Bool → Shared → Prop} (hk : TuAt P w s.heap k c) (q : ∀ r, Q r s) : wpAny (model P w) A (hashByValue 8 (.ref c)) Q E s := by
  have ty := hk.typeIs
  obtain ⟨ob, us, n, ho, _, hd, hi⟩ := hk
  unfold hashByValue
  refine wpAny_bind (wpAny_specialOf ty F.slot_tuple_hash.lookup ?_)
  refine wpAny_bind (wpAny_seqItems (a := c) ho hd ?_)
  dsimp only [Option.getD]
  rw [← Array.forIn_toList]
  generalize us.toList = l at hi
  refine wpAny_bind ?_
  cases l with
  | nil => exact wpAny_pure (wpAny_pure (q _))
  | cons u us =>
    obtain ⟨x, t, rfl⟩ := str_items hi u List.mem_cons_self
    rw [List.forIn_cons, val_str]
    exact wpAny_bind (wpAny_bind (wpAny_pure (wpAny_pure (wpAny_pure (wpAny_pure (q _))))))
/-- a search among tuples of texts shows nothing -/
theorem shows_tu {k : List Str} {c : Addr} {Q : Bool → Shared → Prop} (hk : TuAt P w s.heap k c) {ys : List Value} (hy : ∀ y ∈ ys, ∃ k' c', y = Value.ref c' ∧ TuAt P w s.heap k' c') (q : Q false s) :
    wpAny (model P w) A (searchCouldBeSeen (.ref c) ys) Q E s := by
  unfold searchCouldBeSeen
  refine wpAny_bind (wpAny_forIn_list _ (fun left r s2 => s2 = s ∧ r.1 = none ∧ ∀ y ∈ left, ∃ k' c', y = Value.ref c' ∧ TuAt P w s.heap k' c') _ (fun u left r s2 z => ?_) (fun r s2 z => ?_) _ _ ⟨rfl, rfl, hy⟩)
  · obtain ⟨rfl, _, all⟩ := z
    obtain ⟨k2, c2, rfl, h2⟩ := all u List.mem_cons_self
    have all2 := fun y (hm : y ∈ left) => all y (List.mem_cons_of_mem _ hm)
    dsimp only
    by_cases same : (c == c2 || (carriedByValue (.ref c) && carriedByValue (.ref c2))) = true
    · exact wp_if_pos same (wpAny_pure ⟨rfl, rfl, all2⟩)
    · refine wp_if_neg same (wpAny_bind (wpAny_eqIsQuiet_tuple hk ?_))
      refine wp_if_neg (by decide) (wpAny_bind (wpAny_eqIsQuiet_tuple h2 ?_))
      refine wp_if_neg (by decide) (wpAny_bind (cls_tu hk ?_))
      refine wp_if_neg (by decide) (wpAny_bind (cls_tu h2 ?_))
      exact wp_if_neg (by decide) (wpAny_pure ⟨rfl, rfl, all2⟩)
  · obtain ⟨r1, r2⟩ := r
    obtain ⟨rfl, e, _⟩ := z
    simp only at e
    subst e
    exact wpAny_pure q

/-! ### the set of tuples of texts -/
abbrev tEnt (P : Program) (w : World) (p : Value × List Str) : Int × Value := (tuH P w p.2, p.1)
abbrev IsTu (P : Program) (w : World) (h : Heap) (k : List Str) (v : Value) : Prop := ∃ c, v = .ref c ∧ TuAt P w h k c
structure TuS (P : Program) (w : World) (h : Heap) (b : Addr) (L : List (Value × List Str)) (es : Array (Int × Value)) (ep : Nat) (t : SetTable) : Prop where
  ob : ∃ u, h.get? b = some u ∧ u.ExactSet ∧ u.data = .set es ep t
  ents : es.toList = L.map (tEnt P w)
  tab : TabOk t (L.map fun p => tuH P w p.2)
  one : (L.map (·.2)).Nodup
  tus : ∀ p ∈ L, IsTu P w h p.2 p.1
  led : Led w t
  slack : 5 * L.length < 3 * t.mask
  few : L.length < 64
abbrev wy (m : Nat) (n : Int) (c : Nat) : SetTable.Probe := nth m (runAt m (SetTable.bits n % (m + 1)) (SetTable.bits n)) c
theorem wy_none (m : Nat) (n : Int) (c : Nat) : (wy m n c).dummy = none := by
  have all : ∀ (j : Nat) (p : SetTable.Probe), p.dummy = none → (nth m p j).dummy = none := fun j => by
    induction j with
    | zero => exact fun p e => e
    | succ j ih => exact fun p e => ih _ (by unfold adv; split <;> exact e)
  exact all c _ rfl
variable {b : Addr} {L : List (Value × List Str)} {es : Array (Int × Value)} {ep : Nat} {t : SetTable}
theorem ents_size {es : Array (Int × Value)} {L : List (Value × List Str)} (h : es.toList = L.map (tEnt P w)) : es.size = L.length := by
  have z := congrArg List.length h
  rwa [Array.length_toList, List.length_map] at z
theorem TuS.sz {h : Heap} (R : TuS P w h b L es ep t) : es.size = L.length := ents_size R.ents
theorem TuS.psz {h : Heap} (R : TuS P w h b L es ep t) : t.place.size = L.length := by
  have z := R.tab.sz
  rwa [List.length_map] at z
theorem fits_of {t : SetTable} {n : Nat} (h1 : t.place.size = n) (h2 : t.dummies = #[]) (h3 : n ≤ t.mask) : t.fits n = true := by
  simp only [SetTable.fits, SetTable.fill, h1, h2, Bool.and_eq_true, beq_iff_eq, decide_eq_true_eq]
  exact ⟨trivial, h3⟩
theorem TuS.fit {h : Heap} (R : TuS P w h b L es ep t) : t.fits es.size = true := by
  have z := R.slack
  exact fits_of (R.psz.trans R.sz.symm) R.tab.dm (by rw [R.sz]; omega)
theorem ent_at {es : Array (Int × Value)} {L : List (Value × List Str)} (h : es.toList = L.map (tEnt P w)) {i : Nat} {p : Value × List Str} (e : L[i]? = some p) : es[i]? = some (tuH P w p.2, p.1) := by
  rw [← Array.getElem?_toList, h, List.getElem?_map, e]
  rfl
/-- THE SEARCH, from the c-th place of the way on -/
theorem look {x : Addr} {k : List Str} {K : Nat} {Q : SetFound → Shared → Prop} (R : TuS P w s.heap b L es ep t) (hx : TuAt P w s.heap k x) (hu : A.units < cLine) (hf : K < 10 * SetTable.turns t.mask)
    (free : (wy t.mask (tuH P w k) K).j ∉ t.place.toList) (full : ∀ c, c < K → (wy t.mask (tuH P w k) c).j ∈ t.place.toList) (yes : k ∈ L.map (·.2) → Q (.there none) s) (no : k ∉ L.map (·.2) → Q (.free (wy t.mask (tuH P w k) K).j false) s) :
    ∀ (fuel c : Nat), c ≤ K → K < fuel + c → (∀ (i : Nat) (p : Value × List Str), L[i]? = some p → p.2 = k → ∃ c', c ≤ c' ∧ c' < K ∧ t.place.toList[i]? = some (wy t.mask (tuH P w k) c').j) →
      ∀ stand : Option SetTable.Probe, stand.getD (t.probeStart (tuH P w k)) = wy t.mask (tuH P w k) c → wpAny (model P w) A (setSearchFrom b (.ref x) (tuH P w k) true fuel stand) Q E s
  | 0, c, h1, h2, _, _, _ => absurd h2 (by omega)
  | fuel + 1, c, h1, h2, ahead, stand, st => by
    obtain ⟨u, hb, _, hd⟩ := R.ob
    rw [setSearchFrom_succ]
    refine wpAny_bind (wpAny_setState_of hb hd R.fit (wp_if_neg (by unfold SetTable.gaveWay; rw [mask_odd R.tab.mok]; decide) ?_))
    dsimp only
    have shift : ∀ q, nth t.mask (wy t.mask (tuH P w k) c) q = wy t.mask (tuH P w k) (c + q) := fun q => (nth_add t.mask c _ q).symm
    have hKc : c + (K - c) = K := by omega
    have ans := go_spec t R.tab.ris R.tab.dm (fun i => (es[i]?.map (·.1)).getD 0) (tuH P w k) (10 * SetTable.turns t.mask) (K - c) (wy t.mask (tuH P w k) c) (wy_none _ _ _) (by omega)
      (fun q hq => by rw [shift]; exact full _ (by omega)) (by rw [shift, hKc]; exact free)
    simp only [shift, hKc] at ans
    have hash : ∀ (i : Nat) (p : Value × List Str), L[i]? = some p → (es[i]?.map (·.1)).getD 0 = tuH P w p.2 := fun i p hp => by rw [ent_at R.ents hp]; rfl
    have gone : ∀ (i : Nat) (p : Value × List Str), L[i]? = some p → p.2 = k → ∀ q, q ≤ K - c → (∀ (k' i' : Nat), k' < q → t.place.toList[i']? = some (wy t.mask (tuH P w k) (c + k')).j → (es[i']?.map (·.1)).getD 0 ≠ tuH P w k) → ∃ c', c + q ≤ c' ∧ c' < K ∧ t.place.toList[i]? = some (wy t.mask (tuH P w k) c').j := fun i p hp hk q _ hno => by
      obtain ⟨c', a1, a2, a3⟩ := ahead i p hp hk
      refine ⟨c', ?_, a2, a3⟩
      rcases Nat.lt_or_ge c' (c + q) with z | z
      · refine absurd ((hash i p hp).trans (congrArg _ hk)) (hno (c' - c) i (by omega) ?_)
        rw [show c + (c' - c) = c' by omega]
        exact a3
      · exact z
    have pr : ∀ m, SetTable.probe.go t (fun i => (es[i]?.map (·.1)).getD 0) (tuH P w k) (10 * SetTable.turns t.mask) (wy t.mask (tuH P w k) c) = m → t.probe (fun i => (es[i]?.map (·.1)).getD 0) (tuH P w k) (stand.getD (t.probeStart (tuH P w k))) = m := fun m e => by rw [st]; exact e
    rcases ans with ⟨q, i, hq, hi, hh, hno, go⟩ | ⟨hno, go⟩
    · rw [pr _ go]
      dsimp only
      have il : i < L.length := by
        have := (List.getElem?_eq_some_iff.mp hi).1
        rw [Array.length_toList, R.psz] at this
        exact this
      obtain ⟨p, hp⟩ : ∃ p, L[i]? = some p := ⟨_, List.getElem?_eq_getElem il⟩
      have pm := List.mem_of_getElem? hp
      obtain ⟨y, ey, hy⟩ := R.tus p pm
      have on : wpAny (model P w) A (searchRest b (.ref x) (tuH P w k) true fuel es t (wy t.mask (tuH P w k) (c + q)).j i (wy t.mask (tuH P w k) (c + (q + 1)))) Q E s := by
        unfold searchRest
        rw [ent_at R.ents hp]
        dsimp only
        rw [ey]
        refine wpAny_bind (wpAny_holding (wpAny_eqBool_tuple hu hy hx (wpAny_bind (wpAny_setState_of hb hd R.fit ?_))))
        dsimp only
        by_cases e : p.2 = k
        · exact wp_if_pos (by simp [e]) (wpAny_pure (yes (List.mem_map.mpr ⟨p, pm, e⟩)))
        · refine wp_if_neg (by simp [e]) ?_
          rw [sameMem]
          have live := slot_live R.tab.ris hi
          simp only [if_true, live, ent_at R.ents hp, ey]
          refine wpAny_bind (wpAny_isSame_ref_self (wpAny_bind (wpAny_pure ?_)))
          simp only [if_true]
          refine wp_if_neg (by simp [e]) (look R hx hu hf free full yes no fuel (c + (q + 1)) (by omega) (by omega) (fun j p2 hp2 hk2 => ?_) _ rfl)
          obtain ⟨c', a1, a2, a3⟩ := gone j p2 hp2 hk2 q (by omega) hno
          refine ⟨c', ?_, a2, a3⟩
          rcases Nat.eq_or_lt_of_le a1 with z | z
          · exfalso
            rw [← z] at a3
            have l2 := slot_live R.tab.ris a3
            rw [live] at l2
            injection l2 with l2
            rw [← l2, hp] at hp2
            exact e (by rw [Option.some.inj hp2]; exact hk2)
          · omega
      by_cases led : t.led = true
      · exact wp_if_neg (by simp [led]) on
      · refine wp_if_pos (by simp [led]) (wpAny_bind (shows_tu hx (fun y2 hm => ?_) (wp_if_neg (by decide) on)))
        obtain ⟨en, he, rfl⟩ := List.mem_map.mp hm
        have he : en ∈ es.toList := by
          have z : en ∈ es ∧ en.1 = tuH P w k := by simpa using he
          simpa using z.1
        rw [R.ents] at he
        obtain ⟨p2, hp2, rfl⟩ := List.mem_map.mp he
        obtain ⟨z, e1, e2⟩ := R.tus p2 hp2
        exact ⟨p2.2, z, e1, e2⟩
    · rw [pr _ go]
      dsimp only
      refine wpAny_pure (no fun hm => ?_)
      obtain ⟨p, pm, hk⟩ := List.mem_map.mp hm
      obtain ⟨i, hp⟩ := List.mem_iff_getElem?.mp pm
      obtain ⟨c', a1, a2, _⟩ := gone i p hp hk (K - c) (Nat.le_refl _) (fun k' i' h => hno k' i' h)
      omega
theorem look_at {x : Addr} {k : List Str} {Q : SetFound → Shared → Prop} (R : TuS P w s.heap b L es ep t) (hx : TuAt P w s.heap k x) (hu : A.units < cLine) (yes : k ∈ L.map (·.2) → Q (.there none) s)
    (no : ∀ K, k ∉ L.map (·.2) → way t.mask (tuH P w k) K ∉ t.place.toList → (∀ c, c < K → way t.mask (tuH P w k) c ∈ t.place.toList) → Q (.free (way t.mask (tuH P w k) K) false) s) :
    wpAny (model P w) A (setSearch b (.ref x) (tuH P w k) true) Q E s := by
  have sl := R.slack
  obtain ⟨K, h1, h2, h3⟩ := R.tab.first (by rw [List.length_map]; omega) (tuH P w k)
  have small : 10 * SetTable.turns t.mask ≤ 1420 := by
    unfold SetTable.turns
    rcases R.tab.mok with e | e | e <;> omega
  refine look R hx hu h1 h2 h3 yes (fun z => no K z h2 h3) 100000 0 (Nat.zero_le _) (by omega) (fun i p hp hk => ?_) none rfl
  obtain ⟨j, hj⟩ : ∃ j, t.place.toList[i]? = some j := ⟨_, List.getElem?_eq_getElem (by rw [Array.length_toList, R.psz]; exact (List.getElem?_eq_some_iff.mp hp).1)⟩
  obtain ⟨c, hc, e⟩ := R.tab.before h2 (by rw [List.getElem?_map, hp, ← hk]; rfl) hj
  exact ⟨c, Nat.zero_le _, hc, by rw [hj, ← e]⟩
theorem tu_same {h h' : Heap} {k : List Str} {c : Addr} {u : Obj} (hc : TuAt P w h k c) (hb : h.get? b = some u) (hd : u.data = .set es ep t) (e : Heap.SameBut b h h') : TuAt P w h' k c := by
  obtain ⟨u2, us, n, h1, h2, h3, h4⟩ := hc
  refine ⟨u2, us, n, (e.2 c fun z => ?_).trans h1, h2, h3, h4⟩
  rw [z, hb] at h1
  cases h1
  rw [hd] at h3
  cases h3
theorem isTu_same {h h' : Heap} {k : List Str} {v : Value} {u : Obj} (hc : IsTu P w h k v) (hb : h.get? b = some u) (hd : u.data = .set es ep t) (e : Heap.SameBut b h h') : IsTu P w h' k v := by
  obtain ⟨c, rfl, hc⟩ := hc
  exact ⟨c, rfl, tu_same hc hb hd e⟩
theorem reorder (L : List (Value × List Str)) (es : Array (Int × Value)) (order : Array Nat) (hr : es.toList = L.map (tEnt P w)) (hp : order.toList.Perm (List.range L.length)) :
    ∃ L2 : List (Value × List Str), (order.filterMap (es[·]?)).toList = L2.map (tEnt P w) ∧ L2.Perm L ∧ (L2.map fun p => tuH P w p.2) = order.toList.map fun i => (es.map (·.1)).getD i 0 := by
  have main : ∀ l : List Nat, (∀ i ∈ l, i < L.length) → l.filterMap (fun i => es[i]?) = (l.filterMap fun i => L[i]?).map (tEnt P w) ∧ ((l.filterMap fun i => L[i]?).map fun p => tuH P w p.2) = l.map fun i => (es.map (·.1)).getD i 0 := fun l => by
    induction l with
    | nil => exact fun _ => ⟨rfl, rfl⟩
    | cons i l ih =>
      intro hl
      obtain ⟨pi, e1⟩ : ∃ p, L[i]? = some p := ⟨_, List.getElem?_eq_getElem (hl i List.mem_cons_self)⟩
      have e2 := ent_at hr e1
      obtain ⟨i1, i2⟩ := ih fun j hj => hl j (List.mem_cons_of_mem _ hj)
      rw [List.filterMap_cons_some e2, List.filterMap_cons_some e1, i1]
      refine ⟨rfl, ?_⟩
      rw [List.map_cons, List.map_cons, i2]
      have e3 : (es.map (·.1))[i]? = some (tuH P w pi.2) := by rw [Array.getElem?_map, e2]; rfl
      simp [Array.getD_eq_getD_getElem?, e3]
  have all : (List.range L.length).filterMap (fun i => L[i]?) = L := by
    refine List.ext_getElem? fun j => ?_
    have : ∀ n, n ≤ L.length → (List.range n).filterMap (fun i => L[i]?) = L.take n := fun n => by
      induction n with
      | zero => intro _; rfl
      | succ n ih =>
        intro hn
        have e1 : L[n]? = some L[n] := List.getElem?_eq_getElem hn
        rw [List.range_succ, List.filterMap_append, ih (by omega), List.filterMap_cons_some e1, List.take_add_one, e1]
        rfl
    rw [this _ (Nat.le_refl _), List.take_length]
  obtain ⟨m1, m2⟩ := main order.toList fun i hi => List.mem_range.mp (hp.mem_iff.mp hi)
  refine ⟨order.toList.filterMap fun i => L[i]?, ?_, ?_, m2⟩
  · first | (rw [Array.toList_filterMap]; exact m1) | simpa using m1
  · have z := hp.filterMap fun i => L[i]?
    rw [all] at z
    exact z
/-- the table is laid anew, larger -/
theorem again_tu {u : Obj} {L : List (Value × List Str)} {wanted M : Nat} {Q : Unit → Shared → Prop} (hb : s.heap.get? b = some u) (hx : u.ExactSet) (hd : u.data = .set es ep t) (he : es.toList = L.map (tEnt P w)) (tab : TabOk t (L.map fun p => tuH P w p.2)) (fl : L.length ≤ t.mask)
    (one : (L.map (·.2)).Nodup) (tus : ∀ p ∈ L, IsTu P w s.heap p.2 p.1) (led : Led w t) (few : L.length < 64) (hw : SetTable.sizeAbove wanted = M + 1) (hM : MaskOk M) (hn : 5 * L.length < 3 * M)
    (q : ∀ h' L' es' ep' t', Heap.SameBut b s.heap h' → TuS P w h' b L' es' ep' t' → L'.Perm L → Q () { s with heap := h' }) : wpAny (model P w) A (setRelay b wanted) Q E s := by
  have z := ents_size he
  have z2 : t.place.size = es.size := by
    have := tab.sz
    rw [List.length_map] at this
    omega
  have hM2 : M ≤ 127 := by rcases hM with e | e | e <;> omega
  obtain ⟨t', order, r1, r2, r3, r4, r5, _, r7⟩ := relaid_ok t (hs := es.map (·.1)) (wanted := wanted) (M := M) (by omega) hM (by rw [Array.size_map]; omega)
  rw [Array.size_map, z] at r2
  obtain ⟨L2, e1, e2, e3⟩ := reorder L es order he r2
  rw [← e3] at r3
  have z3 := ents_size e1
  rw [setRelay_eq]
  refine wpAny_bind (wpAny_setState_of hb hd (fits_of z2 tab.dm (by omega)) (wp_if_neg (by rw [sizeLine_eq]; omega) ?_))
  try refine wpAny_bind (wpAny_pure ?_)
  rw [r1]
  refine wpAny_bind (wp_if_neg (by rw [z3, e2.length_eq, z]; simp) (wpAny_pure ?_))
  refine wpAny_storeSet_of hb hd ?_ (by rw [z3, e2.length_eq, sizeLine_eq]; omega)
  have sb := Heap.SameBut.update s.heap b (Obj.putSet (order.filterMap (es[·]?)) t')
  exact q _ L2 _ (ep + 1) t' sb ⟨⟨_, store_at hb hd, ⟨hx.1, hx.2.1, hx.2.2⟩, rfl⟩, e1, r3, (e2.map (·.2)).nodup_iff.mpr one, fun p hp => isTu_same (tus p (e2.mem_iff.mp hp)) hb hd sb,
    led.imp id fun y => by rw [r5]; exact y, by rw [e2.length_eq, r4]; exact hn, by rw [e2.length_eq]; exact few⟩ e2
/-- one more, its hash known -/
theorem add_tu {x : Addr} {k : List Str} {Q : Bool → Shared → Prop} (R : TuS P w s.heap b L es ep t) (hx : TuAt P w s.heap k x) (hu : A.units < cLine) (few : L.length + 1 < 64)
    (q : ∀ r h' L' es' ep' t', Heap.SameBut b s.heap h' → TuS P w h' b L' es' ep' t' → (k ∈ L.map (·.2) → L' = L) → (k ∉ L.map (·.2) → L'.Perm ((.ref x, k) :: L)) → Q r { s with heap := h' }) :
    wpAny (model P w) A (setAddHashed b (.ref x) (tuH P w k)) Q E s := by
  obtain ⟨u, hb, ex, hd⟩ := R.ob
  have z := R.sz
  have sl := R.slack
  unfold setAddHashed
  refine wpAny_holding ?_
  rw [show (100000 : Nat) = 99999 + 1 from rfl, setAddHashedIn_succ]
  refine wpAny_bind (wpAny_setState_of hb hd R.fit (wp_if_neg (by simp [byScan, Value.scannable]) ?_))
  refine wpAny_bind (look_at R hx hu (fun hm => ?_) fun K hm free full => ?_)
  · exact wpAny_pure (q false s.heap L es ep t (Heap.SameBut.refl b s.heap) R (fun _ => rfl) fun n => absurd hm n)
  · refine wpAny_bind (wpAny_setState_of hb hd R.fit ?_)
    dsimp only
    obtain ⟨q1, q2, q3, q4, q5, _, _, _, q9⟩ := R.tab.put free full
    rw [List.length_map] at q2 q9
    generalize t.put (way t.mask (tuH P w k) K) = pt at q1 q3 q4 q5 q9 ⊢
    obtain ⟨t1, p⟩ := pt
    dsimp only at q1 q3 q4 q5 q9 ⊢
    rw [← q1] at q2 q3
    have hin : (SetTable.insertAt es p (tuH P w k, Value.ref x)).toList = (L.take p ++ (Value.ref x, k) :: L.drop p).map (tEnt P w) := by
      rw [SetTable.toList_insertAt, R.ents, List.map_append, List.map_cons, List.map_take, List.map_drop]
    have pm := put_perm L p (Value.ref x, k)
    have hh : (L.map fun p => tuH P w p.2).take p ++ tuH P w k :: (L.map fun p => tuH P w p.2).drop p = (L.take p ++ (Value.ref x, k) :: L.drop p).map fun p => tuH P w p.2 := by
      rw [List.map_append, List.map_cons, List.map_take, List.map_drop]
    rw [hh] at q3
    generalize SetTable.insertAt es p (tuH P w k, Value.ref x) = es1 at hin ⊢
    generalize L.take p ++ (Value.ref x, k) :: L.drop p = L1 at pm q3 hin
    have z1 := ents_size hin
    have len : L1.length = L.length + 1 := pm.length_eq
    have one : (L1.map (·.2)).Nodup := (pm.map (·.2)).nodup_iff.mpr (List.nodup_cons.mpr ⟨hm, R.one⟩)
    -- the rest, for a table whose places are those
    have rest : ∀ t2 : SetTable, TabOk t2 (L1.map fun p => tuH P w p.2) → t2.mask = t.mask → t2.led = t.led → t2.fill = L.length + 1 →
        wpAny (model P w) A (do
          storeSet b es1 t2
          if (!false && t2.tooFull) = true then setRelay b (SetTable.grown (es.size + 1))
          pure true) Q E s := fun t2 k1 k2 k3 k4 => by
      refine wpAny_bind (wpAny_storeSet_of hb hd ?_ (by rw [z1, len, sizeLine_eq]; omega))
      have sb := Heap.SameBut.update s.heap b (Obj.putSet es1 t2)
      have hb1 := store_at (es' := es1) (t' := t2) hb hd
      generalize s.heap.update b (Obj.putSet es1 t2) = h1 at sb hb1 ⊢
      have led : Led w t2 := R.led.imp id fun y => by rw [k3]; exact y
      have tus : ∀ p ∈ L1, IsTu P w h1 p.2 p.1 := fun p hp => by
        rcases List.mem_cons.mp (pm.mem_iff.mp hp) with e | hp
        · rw [e]; exact ⟨x, rfl, tu_same hx hb hd sb⟩
        · exact isTu_same (R.tus p hp) hb hd sb
      by_cases full : t2.tooFull = true
      · have hf := full
        unfold SetTable.tooFull at hf
        rw [decide_eq_true_eq, k4, k2] at hf
        have go : ∀ M, SetTable.sizeAbove (SetTable.grown (es.size + 1)) = M + 1 → MaskOk M → 5 * (L.length + 1) < 3 * M → L1.length ≤ t2.mask →
            wpAny (model P w) A (do setRelay b (SetTable.grown (es.size + 1)); pure true) Q E { s with heap := h1 } := fun M m1 m2 m3 m4 => by
          refine wpAny_bind (again_tu (s := { s with heap := h1 }) hb1 ⟨ex.1, ex.2.1, ex.2.2⟩ rfl hin k1 m4 one tus led (by omega) m1 m2 (by omega) fun h2 L2 es2 ep2 t2 sb2 R2 pm2 => ?_)
          exact wpAny_pure (q true h2 L2 es2 ep2 t2 (sb.trans sb2) R2 (fun y => absurd y hm) fun _ => pm2.trans pm)
        refine wp_if_pos (by simp [full]) ?_
        rcases R.tab.mok with e | e | e
        · have : L.length = 4 := by omega
          exact go 31 (by rw [z, this]; exact size_20) (.inr (.inl rfl)) (by omega) (by omega)
        · have : L.length = 18 := by omega
          exact go 127 (by rw [z, this]; exact size_76) (.inr (.inr rfl)) (by omega) (by omega)
        · omega
      · refine wp_if_neg (by simp [full]) (wpAny_pure (q true h1 L1 es1 (ep + 1) t2 sb ⟨⟨_, hb1, ⟨ex.1, ex.2.1, ex.2.2⟩, rfl⟩, hin, k1, one, tus, led, ?_, by omega⟩ (fun y => absurd y hm) fun _ => pm))
        unfold SetTable.tooFull at full
        rw [decide_eq_true_eq, k4] at full
        omega
    have r1 := rest t1 q3 q4 q5 q9
    have r2 := rest { t1 with plain := false } ⟨q3.ris, q3.dm, q3.sz, q3.mok, q3.bd, q3.reach⟩ q4 q5 q9
    by_cases pl : t1.plain = true
    · refine wp_if_pos pl (wpAny_bind (val_tu hx fun r => ?_))
      cases r with
      | true => exact r1
      | false => exact r2
    · refine wp_if_neg pl (wpAny_bind (wpAny_pure ?_))
      exact r1
end
/-- tuples of texts, as a kind -/
def tuK (P : Program) (w : World) : SKind P w (List Str) where
  At h k v := IsTu P w h k v
  Has h b L := ∃ L2 es ep t, TuS P w h b L2 es ep t ∧ L2.Perm L
  keep := fun ⟨c, e, u, us, n, h1, h2⟩ g => ⟨c, e, u, us, n, g _ _ h1, h2⟩
  held := fun ⟨L2, es, ep, t, R, pm⟩ p hp => R.tus p (pm.mem_iff.mpr hp)
  hkeep := fun ⟨L2, es, ep, t, R, pm⟩ g k => by
    obtain ⟨u, hb, r⟩ := R.ob
    exact ⟨L2, es, ep, t, ⟨⟨u, g u hb, r⟩, R.ents, R.tab, R.one, fun p hp => k p (pm.mem_iff.mp hp), R.led, R.slack, R.few⟩, pm⟩
  fresh := fun hb => ⟨[], #[], 0, _, ⟨⟨_, hb, ⟨rfl, rfl, rfl⟩, rfl⟩, rfl, ⟨List.Pairwise.nil, rfl, rfl, .inl rfl, fun x hx => absurd hx (by simp [SetTable.fresh]), fun i h j hi => by simp at hi⟩, List.nodup_nil, fun p hp => absurd hp (by simp), led_new w, by show 5 * 0 < 3 * 7; decide, by decide⟩, List.Perm.refl _⟩
  add := fun {A E s b L x k Q} hu hs hx few q => by
    obtain ⟨L2, es, ep, t, R, pm⟩ := hs
    obtain ⟨c, rfl, hc⟩ := hx
    have mm : k ∈ L2.map (·.2) ↔ k ∈ L.map (·.2) := (pm.map (·.2)).mem_iff
    unfold setAdd
    refine wpAny_holding (wpAny_bind (wpAny_pyHash_tuple hu hc ?_))
    refine add_tu (s := { s with toks := s.toks + (k.length + 1) }) R hc hu (by rw [pm.length_eq]; exact few) fun r h' L' es' ep' t' sb R' c1 c2 => ?_
    by_cases m : k ∈ L.map (·.2)
    · have e := c1 (mm.mpr m)
      subst e
      exact q r h' L _ (Nat.le_add_right _ _) sb ⟨L', es', ep', t', R', pm⟩ (fun _ => rfl) fun n => absurd m n
    · exact q r h' ((.ref c, k) :: L) _ (Nat.le_add_right _ _) sb ⟨L', es', ep', t', R', (c2 fun z => m (mm.mp z)).trans (pm.cons _)⟩ (fun z => absurd z m) fun _ => List.Perm.refl _
  out := fun ⟨L2, es, ep, t, R, pm⟩ => by
    obtain ⟨u, hb, ex, hd⟩ := R.ob
    refine ⟨es, ep, t, ⟨u, hb, ex.1, hd⟩, R.fit, ?_, R.tab.ris, R.led, ?_⟩
    · rw [ents_size R.ents]; exact R.few
    · rw [R.ents, List.map_map]
      exact pm.map _

/-! ### the set of texts -/
section
variable {P : Program} {w : World} {A : Around} {E : Value → Shared → Prop} {s : Shared} {b : Addr} {L : List (Value × Str)} {es : Array (Int × Value)} {ep : Nat} {t : SetTable}
abbrev xEnt (P : Program) (w : World) (p : Value × Str) : Int × Value := ((strKind P w).hash p.2, p.1)
abbrev IsX (x : Str) (v : Value) : Prop := ∃ tk, v = .str x tk
structure TxS (P : Program) (w : World) (h : Heap) (b : Addr) (L : List (Value × Str)) (es : Array (Int × Value)) (ep : Nat) (t : SetTable) : Prop where
  ob : ∃ u, h.get? b = some u ∧ u.ExactSet ∧ u.data = .set es ep t
  ents : es.toList.Perm (L.map (xEnt P w))
  one : (L.map (·.2)).Nodup
  txs : ∀ p ∈ L, IsX p.2 p.1
  led : Led w t
  fit : t.fits es.size = true
  ris : Ris t.place.toList
  few : L.length < 64
theorem TxS.sz {h : Heap} (R : TxS P w h b L es ep t) : es.size = L.length := by
  have z := R.ents.length_eq
  rwa [Array.length_toList, List.length_map] at z
theorem isX_is {x y : Str} {v : Value} (h : IsX x v) : (strKind P w).is y v = true ↔ x = y := by
  obtain ⟨tk, rfl⟩ := h
  refine ⟨fun z => (strKind P w).inj _ _ _ (strKind_is P w x tk) z, fun e => ?_⟩
  rw [← e]
  exact strKind_is P w x tk
theorem TxS.elems {h : Heap} (R : TxS P w h b L es ep t) : ElemsOf (strKind P w) es.toList := fun e he => by
  obtain ⟨p, hp, rfl⟩ := List.mem_map.mp (R.ents.mem_iff.mp he)
  obtain ⟨tk, e⟩ := R.txs p hp
  exact ⟨⟨p.2, (isX_is ⟨tk, e⟩).mpr rfl, rfl⟩, by show p.1.scannable = true; rw [e]; rfl⟩
theorem add_tx {x : Str} {tk : Tok} {Q : Bool → Shared → Prop} (R : TxS P w s.heap b L es ep t) (few : L.length + 1 < 64)
    (q : ∀ r h' L' es' ep' t', Heap.SameBut b s.heap h' → TxS P w h' b L' es' ep' t' → (x ∈ L.map (·.2) → L' = L) → (x ∉ L.map (·.2) → L'.Perm ((.str x tk, x) :: L)) → Q r { s with heap := h' }) :
    wpAny (model P w) A (setAddHashed b (.str x tk) ((strKind P w).hash x)) Q E s := by
  obtain ⟨u, hb, ex, hd⟩ := R.ob
  have z := R.sz
  have bound : scanBound = 4096 := rfl
  have is := strKind_is P w x tk
  unfold setAddHashed setAddHashedIn
  refine wpAny_holding (wpAny_bind (wpAny_setState_of hb hd R.fit (wp_if_pos (byScan_of rfl (by omega) R.elems) ?_)))
  unfold setAddByScan
  refine wpAny_bind (wpAny_bind (wpAny_rule (wpAny_bind (wpAny_setScan_of is hb hd R.fit R.elems ?_))))
  cases fi : List.findIdx? (fun e => (strKind P w).is x e.2) es.toList with
  | some j =>
    obtain ⟨hj, pj, _⟩ := List.findIdx?_eq_some_iff_getElem.mp fi
    have m : x ∈ L.map (·.2) := by
      obtain ⟨p, hp, e⟩ := List.mem_map.mp (R.ents.mem_iff.mp (List.getElem_mem hj))
      rw [← e] at pj
      exact List.mem_map.mpr ⟨p, hp, (isX_is (P := P) (w := w) (R.txs p hp)).mp pj⟩
    exact wpAny_pure (wpAny_pure (q false s.heap L es ep t (Heap.SameBut.refl b s.heap) R (fun _ => rfl) fun n => absurd m n))
  | none =>
    have m : x ∉ L.map (·.2) := fun m => by
      obtain ⟨p, hp, e⟩ := List.mem_map.mp m
      have c := List.findIdx?_eq_none_iff.mp fi _ (R.ents.mem_iff.mpr (List.mem_map.mpr ⟨p, hp, rfl⟩))
      rw [(isX_is (P := P) (w := w) (R.txs p hp)).mpr e] at c
      cases c
    have pm := layNew_perm t es ((strKind P w).hash x) (.str x tk)
    have f1 := layNew_fits t es ((strKind P w).hash x) (.str x tk)
    have r1 := layNew_ris t es ((strKind P w).hash x) (.str x tk) R.ris
    have l1 := layNew_led t es ((strKind P w).hash x) (.str x tk)
    dsimp only
    generalize layNew t es ((strKind P w).hash x) (.str x tk) = N at pm f1 r1 l1 ⊢
    obtain ⟨es1, t1, wd, gave⟩ := N
    dsimp only at pm f1 r1 l1 ⊢
    have pe : es1.toList.Perm (((.str x tk, x) :: L).map (xEnt P w)) := by
      rw [Array.toList_push] at pm
      exact (pm.trans (List.perm_append_singleton _ _)).trans (R.ents.cons _)
    have one : (((Value.str x tk, x) :: L).map (·.2)).Nodup := List.nodup_cons.mpr ⟨m, R.one⟩
    have txs : ∀ p ∈ (Value.str x tk, x) :: L, IsX p.2 p.1 := fun p hp => by
      rcases List.mem_cons.mp hp with rfl | hp
      · exact ⟨tk, rfl⟩
      · exact R.txs p hp
    have sz1 : es1.size = L.length + 1 := by
      have := pe.length_eq
      rwa [Array.length_toList, List.length_map] at this
    have gw : ∀ (g : Bool) {s2 : Shared} {Q2 : Unit → Shared → Prop}, Q2 () s2 → wpAny (model P w) A (match g with | true => rule "set.scan.the-table-gave-way" | false => pure ()) Q2 E s2 := fun g => by
      cases g
      · exact fun y => wpAny_pure y
      · exact fun y => wpAny_rule y
    have rest : ∀ t2 : SetTable, t2.fits es1.size = true → Ris t2.place.toList → t2.led = t.led → ∀ go : Bool → Sem Unit, (∀ (g : Bool) {s2 : Shared} {Q2 : Unit → Shared → Prop}, Q2 () s2 → wpAny (model P w) A (go g) Q2 E s2) →
        wpAny (model P w) A (do
          storeSet b es1 t2
          if (!wd && t2.tooFull) = true then
            go (relayAll t2 es1 (SetTable.grown es1.size)).2.2
            storeSet b (relayAll t2 es1 (SetTable.grown es1.size)).1 (relayAll t2 es1 (SetTable.grown es1.size)).2.1
            pure (some true)
          else pure (some true)) (fun r s2 => ∃ h', s2 = { s with heap := h' } ∧ r = some true ∧ Q true s2) E s := fun t2 k1 k2 k3 go hgo => by
      refine wpAny_bind (wpAny_storeSet_of hb hd ?_ (by rw [sz1, sizeLine_eq]; omega))
      have sb := Heap.SameBut.update s.heap b (Obj.putSet es1 t2)
      have hb1 := store_at (es' := es1) (t' := t2) hb hd
      generalize s.heap.update b (Obj.putSet es1 t2) = h1 at sb hb1 ⊢
      have led : Led w t2 := R.led.imp id fun y => by rw [k3]; exact y
      by_cases full : (!wd && t2.tooFull) = true
      · refine wp_if_pos full (wpAny_bind (hgo _ ?_))
        have pm2 := relayAll_perm t2 es1 (SetTable.grown es1.size)
        have f3 := relayAll_fits t2 es1 (SetTable.grown es1.size)
        have r3 := relayAll_ris t2 es1 (SetTable.grown es1.size)
        have l3 := relayAll_led t2 es1 (SetTable.grown es1.size)
        generalize relayAll t2 es1 (SetTable.grown es1.size) = N at pm2 f3 r3 l3 ⊢
        obtain ⟨es2, t3, g3⟩ := N
        dsimp only at pm2 f3 r3 l3 ⊢
        have sz2 : es2.size = es1.size := by rw [← Array.length_toList, pm2.length_eq, Array.length_toList]
        refine wpAny_bind (wpAny_storeSet_of (s := { s with heap := h1 }) hb1 rfl ?_ (by rw [sz2, sz1, sizeLine_eq]; omega))
        have hb2 := store_at (es' := es2) (t' := t3) hb1 rfl
        exact wpAny_pure ⟨_, rfl, rfl, q true _ _ es2 _ t3 (sb.trans (Heap.SameBut.update _ b _)) ⟨⟨_, hb2, ⟨ex.1, ex.2.1, ex.2.2⟩, rfl⟩, pm2.trans pe, one, txs, led.imp id fun y => by rw [l3]; exact y, f3, r3, by show L.length + 1 < 64; exact few⟩ (fun y => absurd y m) fun _ => List.Perm.refl _⟩
      · exact wp_if_neg full (wpAny_pure ⟨_, rfl, rfl, q true h1 _ es1 _ t2 sb ⟨⟨_, hb1, ⟨ex.1, ex.2.1, ex.2.2⟩, rfl⟩, pe, one, txs, led, k1, k2, few⟩ (fun y => absurd y m) fun _ => List.Perm.refl _⟩)
    have fin : ∀ {m : Sem (Option Bool)}, wpAny (model P w) A m (fun r s2 => ∃ h', s2 = { s with heap := h' } ∧ r = some true ∧ Q true s2) E s →
        wpAny (model P w) A m (fun r s2 => wpAny (model P w) A (match r with | some added => pure added | none => setAddHashedIn b (.str x tk) ((strKind P w).hash x) 99999) Q E s2) E s := fun h =>
      wpAny_mono h (fun r s2 ⟨_, _, e, y⟩ => by rw [e]; exact wpAny_pure y) fun _ _ y => y
    refine wpAny_bind (gw gave ?_)
    have f2 : ({ t1 with plain := false } : SetTable).fits es1.size = true := f1
    by_cases pl : t1.plain = true
    · refine wp_if_pos pl (wpAny_bind ?_)
      rw [val_str]
      refine wpAny_pure ?_
      simp only [Bool.false_eq_true, if_false]
      refine fin (rest _ f2 r1 l1 _ fun g {_ _} y => ?_)
      cases g
      · exact wpAny_pure y
      · exact wpAny_rule y
    · refine wp_if_neg pl (wpAny_bind (wpAny_pure ?_))
      simp only [if_true]
      refine fin (rest _ f1 r1 l1 _ fun g {_ _} y => ?_)
      cases g
      · exact wpAny_pure y
      · exact wpAny_rule y
end
def txK (P : Program) (w : World) : SKind P w Str where
  At _ x v := IsX x v
  Has h b L := ∃ es ep t, TxS P w h b L es ep t
  keep := fun e _ => e
  held := fun ⟨es, ep, t, R⟩ => R.txs
  hkeep := fun ⟨es, ep, t, R⟩ g k => by
    obtain ⟨u, hb, r⟩ := R.ob
    exact ⟨es, ep, t, ⟨⟨u, g u hb, r⟩, R.ents, R.one, k, R.led, R.fit, R.ris, R.few⟩⟩
  fresh := fun hb => ⟨#[], 0, _, ⟨⟨_, hb, ⟨rfl, rfl, rfl⟩, rfl⟩, List.Perm.refl _, List.nodup_nil, fun p hp => absurd hp (by simp), led_new w, rfl, List.Pairwise.nil, by decide⟩⟩
  add := fun {A E s b L x k Q} hu hs hx few q => by
    obtain ⟨es, ep, t, R⟩ := hs
    obtain ⟨tk, rfl⟩ := hx
    unfold setAdd
    refine wpAny_holding (wpAny_bind ((strKind P w).pyHash (strKind_is P w k tk) ?_))
    refine add_tx (s := { s with toks := s.toks + 1 }) R few fun r h' L' es' ep' t' sb R' c1 c2 => ?_
    exact q r h' L' _ (Nat.le_succ _) sb ⟨es', ep', t', R'⟩ c1 c2
  out := fun ⟨es, ep, t, R⟩ => by
    obtain ⟨u, hb, ex, hd⟩ := R.ob
    refine ⟨es, ep, t, ⟨u, hb, ex.1, hd⟩, R.fit, by rw [R.sz]; exact R.few, R.ris, R.led, ?_⟩
    have z := R.ents.map (·.2)
    rw [List.map_map] at z
    exact z
end Kl
/-! KlTu2: set(a list, a tuple) of such things; sorted(set(..)). -/
namespace Kl
open PySem PySem.Spec PyProof.Rows L2
/-- what a set has got from ks -/
structure Ded {α : Type} (ks L : List (Value × α)) : Prop where
  sub : ∀ p ∈ L, p ∈ ks
  all : ∀ p ∈ ks, p.2 ∈ L.map (·.2)
  len : L.length ≤ ks.length
  one : (L.map (·.2)).Nodup
section
variable {α : Type} [DecidableEq α] {P : Program} {w : World} {A : Around} {E : Value → Shared → Prop} {s : Shared}
theorem Ded.old {ks L : List (Value × α)} {x : Value × α} (d : Ded ks L) (m : x.2 ∈ L.map (·.2)) : Ded (ks ++ [x]) L :=
  ⟨fun p hp => List.mem_append_left _ (d.sub p hp), fun p hp => (List.mem_append.mp hp).elim (d.all p) fun z => by rw [List.mem_singleton.mp z]; exact m, by rw [List.length_append]; exact Nat.le_add_right_of_le d.len, d.one⟩
theorem Ded.new {ks L L2 : List (Value × α)} {x : Value × α} (d : Ded ks L) (m : x.2 ∉ L.map (·.2)) (pm : L2.Perm (x :: L)) : Ded (ks ++ [x]) L2 :=
  ⟨fun p hp => (List.mem_cons.mp (pm.mem_iff.mp hp)).elim (fun e => by rw [e]; exact List.mem_append_right _ (List.mem_singleton.mpr rfl)) fun z => List.mem_append_left _ (d.sub p z),
    fun p hp => (pm.map (·.2)).mem_iff.mpr ((List.mem_append.mp hp).elim (fun z => List.mem_cons_of_mem _ (d.all p z)) fun z => by rw [List.mem_singleton.mp z]; exact List.mem_cons_self),
    by rw [pm.length_eq, List.length_append]; exact Nat.succ_le_succ d.len, (pm.map (·.2)).nodup_iff.mpr (List.nodup_cons.mpr ⟨m, d.one⟩)⟩
/-- the loop of set.update -/
theorem fill (D : SKind P w α) {I : Addr} {fp wr : List Addr} {G : Array GenState → Array GenState → Prop} {n : Nat} {Pv : Nat → Value → Prop} {St : Nat → Shared → Prop} {R : Result → Shared → Prop}
    (W : WalksS P w A.in1 I fp wr G n Pv St) (b : Addr) (hbf : b ∉ fp) (ks : List (Value × α)) (hn : n = ks.length) (few : ks.length < 64) (hv : ∀ i v, Pv i v → ∃ p, ks[i]? = some p ∧ v = p.1)
    (h0 : Heap) (hk : ∀ p ∈ ks, D.At h0 p.2 p.1) (hb0 : h0.get? b = none) (hw0 : ∀ c ∈ wr, h0.get? c = none) (hu : A.in1.units < cLine) :
    ∀ (left i : Nat) (s : Shared), i + left = n → St i s → Gro h0 s.heap → (∃ L, D.Has s.heap b L ∧ Ded (ks.take i) L) →
      (∀ s2 L, Moved (b :: wr) G s s2 → D.Has s2.heap b L → Ded ks L → Gro h0 s2.heap → R (.ok (.ret .none)) s2) → codeAny (model P w) A (.builtin "set.update.loop" ⟨[.ref b, .ref I], []⟩) R s := by
  have bw : b ∉ wr := fun z => hbf (W.sub _ z)
  have more : ∀ c ∈ wr, c ∈ b :: wr := fun c z => List.mem_cons_of_mem _ z
  have gro : ∀ {s1 s2 : Shared}, Moved wr G s1 s2 → Gro h0 s1.heap → Gro h0 s2.heap := fun mv g c u e => mv.heap c u (fun z => by rw [hw0 c z] at e; cases e) (g c u e)
  intro left
  induction left with
  | zero =>
    intro i s hi hs g ⟨L, hL, d⟩ hR
    obtain rfl : i = n := hi
    refine codeAny_builtin F.entry_set_update_loop ?_
    rw [Around.under_plainId F.plain_set_update_loop _]
    refine wpAny_bind (m := pyNext (.ref I)) (W.done s _ _ hs fun s2 mv => ?_)
    rw [hn, List.take_length] at d
    exact wpAny_pure (hR s2 L (mv.mono more) (D.hkeep hL (fun u e => mv.heap b u bw e) fun p hp => D.keep (hk p (d.sub p hp)) (gro mv g)) d (gro mv g))
  | succ left ih =>
    intro i s hi hs g ⟨L, hL, d⟩ hR
    refine codeAny_builtin F.entry_set_update_loop ?_
    rw [Around.under_plainId F.plain_set_update_loop _]
    refine wpAny_bind (m := pyNext (.ref I)) (W.item i s _ _ (by omega) hs fun v s1 hp st1 mv => ?_)
    obtain ⟨p, hpi, rfl⟩ := hv i v hp
    have g1 := gro mv g
    have tk : ks.take (i + 1) = ks.take i ++ [p] := by rw [List.take_add_one, hpi]; rfl
    have hL1 : D.Has s1.heap b L := D.hkeep hL (fun u e => mv.heap b u bw e) fun q hq => D.keep (hk q (List.mem_of_mem_take (d.sub q hq))) g1
    have short : L.length + 1 < 64 := by
      have z1 := d.len
      rw [List.length_take] at z1
      omega
    refine wpAny_bind (m := holding [p.1] (setAdd b p.1)) (wpAny_holding (D.add hu hL1 (D.keep (hk p (List.mem_of_getElem? hpi)) g1) short fun r h2 L2 tk2 le sb hL2 c1 c2 => ?_))
    have d2 : Ded (ks.take (i + 1)) L2 := by
      rw [tk]
      by_cases m : p.2 ∈ L.map (·.2)
      · rw [c1 m]; exact d.old m
      · exact d.new m (c2 m)
    have g2 : Gro h0 h2 := fun c u e => (sb.2 c fun z => by rw [z, hb0] at e; cases e).trans (g1 c u e)
    refine wpAny_pure ⟨plainId_quiet F.plain_set_update_loop _, ih (i + 1) _ (by omega) (W.frame _ s1 _ _ st1 le fun c hc u e => (sb.2 c fun z => hbf (by rw [← z]; exact hc)).trans e) g2 ⟨L2, hL2, d2⟩ fun s3 L3 mv3 hL3 d3 g3 => ?_⟩
    exact hR s3 L3 (Moved.trans W.gtrans ((mv.mono more).then_heap le fun c u hc e => (sb.2 c fun z => hc (by rw [z]; exact List.mem_cons_self)).trans e) mv3) hL3 d3 g3
end

set_option maxHeartbeats 8000000 in
/-- set(a list) -/
theorem set_of_list {α : Type} [DecidableEq α] {P : Program} {w : World} {A : Around} {E : Value → Shared → Prop} {s : Shared} (D : SKind P w α) {l : Addr} {its : Array Value} (ks : List (Value × α)) {Q : Value → Shared → Prop} (hh : A.handled = none) (hl : s.heap.IsList l its)
    (ek : its.toList = ks.map (·.1)) (hk : ∀ p ∈ ks, D.At s.heap p.2 p.1) (few : ks.length < 64) (hu : A.units + 3 < cLine)
    (q : ∀ (h' : Heap) (tk : Nat) L, D.Has h' s.heap.objs.size L → Ded ks L → Gro s.heap h' → Q (.ref s.heap.objs.size) { s with heap := h', toks := tk }) :
    wpAny (model P w) A (call (.type "set") [.ref l]) Q E s := by
  have ez : its.size = ks.length := by
    have z := congrArg List.length ek
    rwa [Array.length_toList, List.length_map] at z
  obtain ⟨c0, c1, order⟩ := F.called_set.mro
  have f1 := F.called_set.made
  have f2 := F.called_set.sub
  refine wpAny_call (codeAny_of_tree ?_)
  show wpAny _ _ (callAny (.type "set") _) _ _ s
  refine wpAny_pure ⟨Code.quiet_builtin _ (by decide +kernel), codeAny_builtin F.entry_type_call ?_⟩
  rw [Around.under_plain (weight_type_call_type "set" [.ref l] []) rfl]
  have f3 := F.called_set.notType
  have f4 := F.called_set.canCreate
  have f5 := F.typeCall_set_1 (.ref l)
  repeat (any_goals (first | assumption | wp_step))
  refine codeAny_mono (code_set_led1 (.ref l) (E := E) (Q₁ := fun r s1 => r = .ref s.heap.objs.size ∧ s1 = { s with heap := s.heap.push (newS w) }) ⟨rfl, rfl⟩) fun r s1 hr => ?_
  cases r with
  | error e => exact hr
  | ok fl =>
    cases fl with
    | ret obj =>
      obtain ⟨rfl, rfl⟩ := hr
      have atS : (s.heap.push (newS w)).get? s.heap.objs.size = some (newS w) := Heap.get?_push_size _ rfl
      have ty : Shared.TypeIs { s with heap := s.heap.push (newS w) } (.ref s.heap.objs.size) "set" := ⟨_, atS, rfl⟩
      have i1 := F.called_set.init.lookup
      have i2 := F.called_set.init.bind (.ref s.heap.objs.size)
      repeat (any_goals (first | assumption | wp_step))
      refine codeAny_mono (codeAny_call_builtin (R := wants (fun r s2 => r = .none ∧ ∃ h' tk L, s2 = { s with heap := h', toks := tk } ∧ D.Has h' s.heap.objs.size L ∧ Ded ks L ∧ Gro s.heap h') E) F.called_set.init.plain F.entry_set_init (check_set_init_1 ty ?_)) fun r2 s2 hr2 => ?_
      · have hl1 : (s.heap.push (newS w)).IsList l its := hl.push _
        obtain ⟨ol, hol, k1, nl, k2⟩ := hl
        obtain ⟨cl, di, da, sl⟩ := ol
        simp only at k1 k2
        subst k1 k2
        have old : (s.heap.push (newS w)).get? l = some { cls := .type "list", dict := di, data := .seq its nl, slots := sl } := Heap.get?_push_of_some _ hol
        have no1 := F.sub_list_set
        have no2 := F.sub_list_frozenset
        have no3 : (Value.type "list" == Value.type "dict") = false := by decide
        unfold Builtin.«set.__init__» noKeywords Builtin.Frozenset.updateFrom
        generalize ePI : pyIter = PI
        wp_walk
        subst ePI
        refine wpAny_pyIter_list hl1 (wpAny_bind (wpAny_runValue ?_))
        have below : l < s.heap.objs.size := Heap.lt_size hol
        have off : ∀ c, s.heap.objs.size ≤ c → s.heap.get? c = none := fun c hc => by
          cases z : s.heap.get? c with
          | none => rfl
          | some u => exact absurd (Heap.lt_size z) (Nat.not_lt_of_le hc)
        have new1 : (s.heap.push (newS w)).objs.size = s.heap.objs.size + 1 := Heap.size_push ..
        refine fill D (Walks.list (by simp [hh]) _ l (by rw [new1]; exact Nat.ne_of_lt (Nat.lt_succ_of_lt below)) its).toS s.heap.objs.size (by rw [new1]; simp only [List.mem_cons, List.not_mem_nil, or_false, not_or]; exact ⟨Nat.ne_of_lt (Nat.lt_succ_self _), Nat.ne_of_gt below⟩) ks ez few (fun i v hv => ?_) s.heap hk (off _ (Nat.le_refl _))
          (fun c hc => off c (by rw [List.mem_singleton.mp hc, new1]; omega)) hu its.size 0 _ (Nat.zero_add _) ⟨⟨_, Heap.get?_push_size _ rfl, rfl, rfl⟩, hl1.push _⟩ (fun c u e => Heap.get?_push_of_some _ (Heap.get?_push_of_some _ e))
          ⟨[], D.fresh (Heap.get?_push_of_some _ atS), fun p hp => absurd hp (by simp), fun p hp => absurd hp (by simp), Nat.zero_le _, List.nodup_nil⟩ fun s3 L mv hL d g => ?_
        · have z : its.toList[i]? = some v := by rw [Array.getElem?_toList]; exact hv
          rw [ek, List.getElem?_map] at z
          obtain ⟨p, h1, h2⟩ := Option.map_eq_some_iff.mp z
          exact ⟨p, h1, h2.symm⟩
        · obtain ⟨h3, g3, d3, t3, o3⟩ := s3
          obtain rfl : g3 = s.gens := mv.gens
          obtain rfl : d3 = s.drawn := mv.drawn
          obtain rfl : o3 = s.os := mv.os
          exact wpAny_pure (wpAny_pure ⟨rfl, h3, t3, L, rfl, hL, d, g⟩)
      · cases r2 with
        | error e => exact hr2
        | ok fl2 =>
          cases fl2 with
          | ret r =>
            obtain ⟨rfl, h3, t3, L, rfl, hL, d, g⟩ := hr2
            repeat (any_goals (first | assumption | wp_step))
            exact q _ _ _ hL d g
          | _ => exact hr2.elim
    | _ => exact hr.elim

set_option maxHeartbeats 8000000 in
/-- set(a tuple) -/
theorem set_of_tuple {α : Type} [DecidableEq α] {P : Program} {w : World} {A : Around} {E : Value → Shared → Prop} {s : Shared} (D : SKind P w α) {l : Addr} {its : Array Value} (ks : List (Value × α)) {Q : Value → Shared → Prop} (hh : A.handled = none) (hl : s.heap.IsTuple l its)
    (ek : its.toList = ks.map (·.1)) (hk : ∀ p ∈ ks, D.At s.heap p.2 p.1) (few : ks.length < 64) (hu : A.units + 3 < cLine)
    (q : ∀ (h' : Heap) (tk : Nat) L, D.Has h' s.heap.objs.size L → Ded ks L → Gro s.heap h' → Q (.ref s.heap.objs.size) { s with heap := h', toks := tk }) :
    wpAny (model P w) A (call (.type "set") [.ref l]) Q E s := by
  have ez : its.size = ks.length := by
    have z := congrArg List.length ek
    rwa [Array.length_toList, List.length_map] at z
  obtain ⟨c0, c1, order⟩ := F.called_set.mro
  have f1 := F.called_set.made
  have f2 := F.called_set.sub
  refine wpAny_call (codeAny_of_tree ?_)
  show wpAny _ _ (callAny (.type "set") _) _ _ s
  refine wpAny_pure ⟨Code.quiet_builtin _ (by decide +kernel), codeAny_builtin F.entry_type_call ?_⟩
  rw [Around.under_plain (weight_type_call_type "set" [.ref l] []) rfl]
  have f3 := F.called_set.notType
  have f4 := F.called_set.canCreate
  have f5 := F.typeCall_set_1 (.ref l)
  repeat (any_goals (first | assumption | wp_step))
  refine codeAny_mono (code_set_led1 (.ref l) (E := E) (Q₁ := fun r s1 => r = .ref s.heap.objs.size ∧ s1 = { s with heap := s.heap.push (newS w) }) ⟨rfl, rfl⟩) fun r s1 hr => ?_
  cases r with
  | error e => exact hr
  | ok fl =>
    cases fl with
    | ret obj =>
      obtain ⟨rfl, rfl⟩ := hr
      have atS : (s.heap.push (newS w)).get? s.heap.objs.size = some (newS w) := Heap.get?_push_size _ rfl
      have ty : Shared.TypeIs { s with heap := s.heap.push (newS w) } (.ref s.heap.objs.size) "set" := ⟨_, atS, rfl⟩
      have i1 := F.called_set.init.lookup
      have i2 := F.called_set.init.bind (.ref s.heap.objs.size)
      repeat (any_goals (first | assumption | wp_step))
      refine codeAny_mono (codeAny_call_builtin (R := wants (fun r s2 => r = .none ∧ ∃ h' tk L, s2 = { s with heap := h', toks := tk } ∧ D.Has h' s.heap.objs.size L ∧ Ded ks L ∧ Gro s.heap h') E) F.called_set.init.plain F.entry_set_init (check_set_init_1 ty ?_)) fun r2 s2 hr2 => ?_
      · have hl1 : (s.heap.push (newS w)).IsTuple l its := hl.push _
        obtain ⟨ol, hol, k1, nl, k2⟩ := hl
        obtain ⟨cl, di, da, sl⟩ := ol
        simp only at k1 k2
        subst k1 k2
        have old : (s.heap.push (newS w)).get? l = some { cls := .type "tuple", dict := di, data := .seq its nl, slots := sl } := Heap.get?_push_of_some _ hol
        have no1 := F.sub_tuple_set
        have no2 := F.sub_tuple_frozenset
        have no3 : (Value.type "tuple" == Value.type "dict") = false := by decide
        unfold Builtin.«set.__init__» noKeywords Builtin.Frozenset.updateFrom
        generalize ePI : pyIter = PI
        wp_walk
        subst ePI
        refine wpAny_pyIter_tuple hl1 (wpAny_bind (wpAny_runValue ?_))
        have below : l < s.heap.objs.size := Heap.lt_size hol
        have off : ∀ c, s.heap.objs.size ≤ c → s.heap.get? c = none := fun c hc => by
          cases z : s.heap.get? c with
          | none => rfl
          | some u => exact absurd (Heap.lt_size z) (Nat.not_lt_of_le hc)
        have new1 : (s.heap.push (newS w)).objs.size = s.heap.objs.size + 1 := Heap.size_push ..
        refine fill D (Walks.tuple (by simp [hh]) _ l (by rw [new1]; exact Nat.ne_of_lt (Nat.lt_succ_of_lt below)) its).toS s.heap.objs.size (by rw [new1]; simp only [List.mem_cons, List.not_mem_nil, or_false, not_or]; exact ⟨Nat.ne_of_lt (Nat.lt_succ_self _), Nat.ne_of_gt below⟩) ks ez few (fun i v hv => ?_) s.heap hk (off _ (Nat.le_refl _))
          (fun c hc => off c (by rw [List.mem_singleton.mp hc, new1]; omega)) hu its.size 0 _ (Nat.zero_add _) ⟨⟨_, Heap.get?_push_size _ rfl, rfl, rfl⟩, hl1.push _⟩ (fun c u e => Heap.get?_push_of_some _ (Heap.get?_push_of_some _ e))
          ⟨[], D.fresh (Heap.get?_push_of_some _ atS), fun p hp => absurd hp (by simp), fun p hp => absurd hp (by simp), Nat.zero_le _, List.nodup_nil⟩ fun s3 L mv hL d g => ?_
        · have z : its.toList[i]? = some v := by rw [Array.getElem?_toList]; exact hv
          rw [ek, List.getElem?_map] at z
          obtain ⟨p, h1, h2⟩ := Option.map_eq_some_iff.mp z
          exact ⟨p, h1, h2.symm⟩
        · obtain ⟨h3, g3, d3, t3, o3⟩ := s3
          obtain rfl : g3 = s.gens := mv.gens
          obtain rfl : d3 = s.drawn := mv.drawn
          obtain rfl : o3 = s.os := mv.os
          exact wpAny_pure (wpAny_pure ⟨rfl, h3, t3, L, rfl, hL, d, g⟩)
      · cases r2 with
        | error e => exact hr2
        | ok fl2 =>
          cases fl2 with
          | ret r =>
            obtain ⟨rfl, h3, t3, L, rfl, hL, d, g⟩ := hr2
            repeat (any_goals (first | assumption | wp_step))
            exact q _ _ _ hL d g
          | _ => exact hr2.elim
    | _ => exact hr.elim
end Kl
/-! KlTu3: sorted(set(..)). -/
namespace Kl
open PySem PySem.Spec PyProof.Rows L2 PySem.W
/-- the value that stands for a text, a place -/
def backV : Value → V
  | .ref a => .ref a
  | .str x _ => .str x
  | _ => .non
theorem map_of_perm {α β : Type} {f : α → β} : ∀ {vs : List β} {L : List α}, vs.Perm (L.map f) → ∃ L' : List α, L'.Perm L ∧ vs = L'.map f
  | [], L, p => by
    have : L = [] := by simpa using List.nil_perm.mp p
    exact ⟨[], by rw [this], rfl⟩
  | v :: vs, L, p => by
    obtain ⟨a, ha, e⟩ := List.mem_map.mp (p.mem_iff.mp (List.mem_cons_self (a := v)))
    obtain ⟨s, t, rfl⟩ := List.append_of_mem ha
    have p2 : vs.Perm ((s ++ t).map f) := by
      have q : (v :: vs).Perm (v :: (s ++ t).map f) := by
        refine p.trans ?_
        rw [List.map_append, List.map_cons, List.map_append, e]
        exact List.perm_middle
      exact (List.perm_cons v).mp q
    obtain ⟨L', h1, h2⟩ := map_of_perm p2
    exact ⟨a :: L', (h1.cons a).trans List.perm_middle.symm, by rw [List.map_cons, e, h2]⟩
/-- a kind whose things stand for data -/
structure DKind (X : Cx) {α : Type} (D : SKind X.prog X.w α) (enc : α → PyData) : Prop where
  inj : InjE enc
  srtb : ∀ l : List α, Srtb (l.map enc)
  pl : ∀ l : List α, plA (l.map enc) = true
  at_ : ∀ {pins : List (Addr × Obj)} {σ : L2.St} {H : Hp} {s : Shared} {M : List Addr} {x : V} {u : Value} {k : α}, Inv X pins σ H s → Rp (hid M H) x (enc k) → RelV x u → D.At s.heap k u ∧ x = backV u
section
variable {X : Cx}
theorem items_vals {P : Program} {w : World} : ∀ {k : List Str} {us : List Value}, Vals (k.map V.str) us → ItemsAre (strKind P w) k us
  | [], _, .nil => .nil
  | x :: k, _, .cons r t => by
    obtain ⟨tk, rfl⟩ := r
    exact .cons (strKind_is P w x tk) (items_vals t)
theorem dk_tx : DKind X (txK X.prog X.w) .str := ⟨inj_str, srtb_str, lay_texts, fun I r rel => by
  cases r
  obtain ⟨tk, rfl⟩ := rel
  exact ⟨⟨tk, rfl⟩, rfl⟩⟩
theorem dk_tu : DKind X (tuK X.prog X.w) eK := ⟨inj_eK, srtb_eK, lay_eK, fun {pins σ H s M x u k} I r rel => by
  cases r with
  | @tup a xs _ h rr =>
    cases rel
    have e := rr.strs
    subst e
    obtain ⟨its, rv, ⟨ob, h1, h2, n, h3⟩, _⟩ := I.tuple (SqT.of (hid_le _ _ h))
    exact ⟨⟨a, rfl, ob, its.toArray, n, h1, h2, h3, by rw [List.toList_toArray]; exact items_vals rv⟩, rfl⟩⟩
end
/-- the rows' keys beside them -/
theorem zip_of {X : Cx} {α : Type} {D : SKind X.prog X.w α} {enc : α → PyData} (dk : DKind X D enc) {pins : List (Addr × Obj)} {σ : L2.St} {H : Hp} {s : Shared} {M : List Addr} (I : Inv X pins σ H s) :
    ∀ {xs : List V} {us : List Value} {ks : List α}, Vals xs us → Rps (hid M H) xs (ks.map enc) → us.length = ks.length ∧ (∀ p ∈ us.zip ks, D.At s.heap p.2 p.1 ∧ RelV (backV p.1) p.1 ∧ Rp (hid M H) (backV p.1) (enc p.2))
  | _, _, [], .nil, .nil => ⟨rfl, fun p hp => by simp at hp⟩
  | _, _, k :: ks, .cons r t, .cons h t' => by
    obtain ⟨h1, h2⟩ := zip_of dk I t t'
    obtain ⟨h3, h4⟩ := dk.at_ I h r
    refine ⟨by rw [List.length_cons, List.length_cons, h1], fun p hp => ?_⟩
    rw [List.zip_cons_cons] at hp
    rcases List.mem_cons.mp hp with rfl | hp
    · rw [← h4]; exact ⟨h3, r, h⟩
    · exact h2 p hp
theorem each_fst {α : Type} {R : Value → Value × α → Prop} : ∀ {L : List (Value × α)}, (∀ p ∈ L, R p.1 p) → EachIs R (L.map (·.1)) L
  | [], _ => .nil
  | p :: r, h => .cons (h p List.mem_cons_self) (each_fst fun q hq => h q (List.mem_cons_of_mem _ hq))
theorem fst_each {α : Type} : ∀ {us : List Value} {L : List (Value × α)}, EachIs (fun u (p : Value × α) => u = p.1) us L → us = L.map (·.1)
  | _, _, .nil => rfl
  | _, _, .cons h t => by rw [List.map_cons, ← h, fst_each t]
/-- sorted(a set) -/
theorem sorted_set {P : Program} {w : World} {A : Around} {E : Value → Shared → Prop} {s : Shared} {α : Type} (D : SKind P w α) (enc : α → PyData) {b : Addr} {L : List (Value × α)} {Q : Value → Shared → Prop} (hs : D.Has s.heap b L) (hh : A.handled = none)
    (hu : A.units + 64 < cLine) (srtb : ∀ l : List α, Srtb (l.map enc)) (rd : ∀ p ∈ L, ∃ as, Reads s.heap p.1 (enc p.2) as)
    (q : ∀ s2 p (out : Array Value) (c : Nat) (L2 : List (Value × α)), Gro s.heap s2.heap → s2.gens = s.gens → s2.os = s.os → s.heap.objs.size ≤ p → s2.heap.get? p = some (seqObj "list" out c) → out.toList = L2.map (·.1) → L2.Perm L →
      (L2.map (·.2)).Pairwise (fun a b => leD (enc a) (enc b) = true) → Q (.ref p) s2) : wpAny (model P w) A (call (.builtin "sorted") [.ref b]) Q E s := by
  obtain ⟨es, ep, t, ha, hf, few, ris, led, pm⟩ := D.out hs
  have bound : es.size < scanBound := Nat.lt_of_lt_of_le few (by decide)
  refine Calls.call_function_entry kind_sorted plain_sorted entry_sorted (args_sorted1 _) ?_
  unfold Builtin.«sorted»
  refine wpAny_bind (m := checkCount "sorted" 1 1 _) (wpAny_pure (wpAny_bind (collect_set (A := A.in1) hh ha hf bound ris led fun s1 vs g1 z1 e1 o1 pm1 => ?_)))
  obtain ⟨L1, p1, rfl⟩ := map_of_perm (pm1.trans pm)
  have n1 : (L1.map (·.1)).length ≤ sizeLine := by
    rw [(pm1.trans pm).length_eq, ← pm.length_eq, List.length_map, Array.length_toList, sizeLine_eq]
    omega
  refine wpAny_bind (wpAny_newList ?_ n1)
  have at1 : (s1.heap.push (seqObj "list" (L1.map (·.1)).toArray 0)).get? s1.heap.objs.size = some (seqObj "list" (L1.map (·.1)).toArray 0) := Heap.get?_push_size _ rfl
  have g2 : Gro s.heap (sortingHeap (s1.heap.push (seqObj "list" (L1.map (·.1)).toArray 0)) s1.heap.objs.size (L1.map (·.1))) := fun c u e => by
    have e2 := g1 c u e
    exact sortingHeap_old (Nat.ne_of_lt (Heap.lt_size e2)) (Heap.get?_push_of_some _ e2)
  have rd1 : EachIs (fun v (p : Value × α) => ∃ as, Reads (sortingHeap (s1.heap.push (seqObj "list" (L1.map (·.1)).toArray 0)) s1.heap.objs.size (L1.map (·.1))) v (enc p.2) as) (L1.map (·.1)) L1 := each_fst fun p hp => by
    obtain ⟨as, r⟩ := rd p (p1.mem_iff.mp hp)
    exact ⟨as, PyProof.Rows.Reads.keeps g2 r⟩
  have em : L1.map (fun p => enc p.2) = (L1.map (·.2)).map enc := by rw [List.map_map]; rfl
  have sb : Srtb (L1.map (fun p => enc p.2)) := by rw [em]; exact srtb _
  have S : SortsAt P w A.in1.in1 { s1 with heap := sortingHeap (s1.heap.push (seqObj "list" (L1.map (·.1)).toArray 0)) s1.heap.objs.size (L1.map (·.1)) } (dataKind (sortingHeap (s1.heap.push (seqObj "list" (L1.map (·.1)).toArray 0)) s1.heap.objs.size (L1.map (·.1))) (L1.map (fun p => enc p.2))) (L1.map (·.1)) := by
    refine sortsAt_srtb (s := { s1 with heap := sortingHeap (s1.heap.push (seqObj "list" (L1.map (·.1)).toArray 0)) s1.heap.objs.size (L1.map (·.1)) }) (each_map (R := fun v d => ∃ as, Reads (sortingHeap (s1.heap.push (seqObj "list" (L1.map (·.1)).toArray 0)) s1.heap.objs.size (L1.map (·.1))) v d as) (fun p : Value × α => enc p.2) rd1) sb ?_
    show A.units + 1 + 1 + 41 < cLine
    omega
  have out := sortVals_data (R := fun u (p : Value × α) => u = p.1) (enc := fun p : Value × α => enc p.2) false (each_fst fun _ _ => rfl) rd1 sb.1
  refine wpAny_bind (wpAny_holding (wpAny_call_entry slot_list_sort ⟨_, at1, rfl⟩ entry_list_sort (list_sort_vals (s := { s1 with heap := s1.heap.push (seqObj "list" (L1.map (·.1)).toArray 0) }) at1 S n1 ⟨_, rfl, ?_⟩) (args_list_sort _)))
  generalize sortVals (dataKind (sortingHeap (s1.heap.push (seqObj "list" (L1.map (·.1)).toArray 0)) s1.heap.objs.size (L1.map (·.1))) (L1.map fun p => enc p.2)) false (L1.map (·.1)) (L1.map (·.1)) = os at out ⊢
  obtain ⟨c, hc⟩ := sortedHeap_at (out := os.toArray) at1
  refine wpAny_pure ⟨_, rfl, q _ s1.heap.objs.size os.toArray c (L1.mergeSort (dataLe false fun p => enc p.2)) (fun d u e => ?_) e1 o1 z1 hc ?_ ((List.mergeSort_perm _ _).trans p1) ?_⟩
  · have e2 := g1 d u e
    have lt := Heap.lt_size e2
    exact (sortedHeap_old (Nat.ne_of_lt lt) (by rw [size_push']; exact Nat.lt_succ_of_lt lt)).trans (Heap.get?_push_of_some _ e2)
  · rw [List.toList_toArray]
    exact fst_each out
  · rw [List.pairwise_map]
    exact List.pairwise_mergeSort (le := fun a b : Value × α => leD (enc a.2) (enc b.2)) (fun a b c => leD_tot.trans _ _ _) (fun a b => by
      rcases leD_tot.total (enc a.2) (enc b.2) with h | h <;> simp [h]) L1
end Kl
/-! KlTu4: sorted(set(..)) by the rows' data. -/
namespace Kl
open PySem PySem.Spec PyProof.Rows L2 PySem.W
section
variable {X : Cx} {C : Cfg} {δ : Dl} {a : Expr} {pos p p2 q : Pos} {α : Type} [DecidableEq α] {D : SKind X.prog X.w α} {enc : α → PyData} {ks : List α}
theorem vals_back : ∀ {L : List (Value × α)}, (∀ p ∈ L, RelV (backV p.1) p.1) → Vals (L.map fun p => backV p.1) (L.map (·.1))
  | [], _ => .nil
  | p :: r, h => .cons (h p List.mem_cons_self) (vals_back fun q hq => h q (List.mem_cons_of_mem _ hq))
theorem rps_back {H : Hp} {enc : α → PyData} : ∀ {L : List (Value × α)}, (∀ p ∈ L, Rp H (backV p.1) (enc p.2)) → Rps H (L.map fun p => backV p.1) ((L.map (·.2)).map enc)
  | [], _ => .nil
  | p :: r, h => .cons (h p List.mem_cons_self) (rps_back fun q hq => h q (List.mem_cons_of_mem _ hq))
def tSrtSet (K : PySem.W.Frag) (enc : α → PyData) (ks : List α) (ta : TE) : TE := fun σ H Q => ta σ H fun x H1 => ∃ (M : List Addr) (l : Addr) (xs : List V), Trk M H1 ∧ x = V.ref l ∧ SqV K H1 l xs ∧ Rps (hid M H1) xs (ks.map enc) ∧
  ∀ p zs, H1 p = none → Rps (hid M H1) zs ((setS enc ks).map enc) → Q (.ref p) (upd H1 p (.lst zs))
theorem srt_run {pins : List (Addr × Obj)} {σ : L2.St} {H : Hp} {s : Shared} {M : List Addr} {b : Addr} {L : List (Value × α)} {us : List Value} {Q : VK} (dk : DKind X D enc) (I : Inv X pins σ H s) (trk : Trk M H) (hs : D.Has s.heap b L) (hh : X.A.handled = none) (hu : X.A.units + 64 < cLine) (few : ks.length < 64)
    (len : us.length = ks.length) (d : Ded (us.zip ks) L) (at_ : ∀ p ∈ us.zip ks, RelV (backV p.1) p.1 ∧ Rp (hid M H) (backV p.1) (enc p.2)) (q : ∀ p zs, H p = none → Rps (hid M H) zs ((setS enc ks).map enc) → Q (.ref p) (upd H p (.lst zs))) :
    wpAny (model X.prog X.w) X.A (call (.builtin "sorted") [.ref b]) (EP X pins σ Q) X.xe s := by
  have pl : ∀ k : α, plD (enc k) = true := fun k => by
    have := dk.pl [k]
    simpa [plA] using this
  refine sorted_set D enc hs hh hu dk.srtb (fun p hp => ?_) fun s2 p out c L2 g eg eo hz ho el pm up => ?_
  · obtain ⟨h1, h2⟩ := at_ p (d.sub p hp)
    exact Dp.reads I _ _ _ ((h2.mono hid_le).dp (pl _)) h1
  · have hn : H p = none := I.hok.fresh hz
    have sub : ∀ p ∈ L2, p ∈ us.zip ks := fun p hp => d.sub p (pm.mem_iff.mp hp)
    have v1 : Vals (L2.map fun p => backV p.1) out.toList := by
      rw [el]
      exact vals_back fun p hp => (at_ p (sub p hp)).1
    have z1 : (L2.map fun p => backV p.1).length ≤ sizeLine := by
      have := d.len
      rw [List.length_zip] at this
      rw [List.length_map, pm.length_eq, sizeLine_eq]
      omega
    have e2 : L2.map (·.2) = setS enc ks := by
      refine setS_of dk.inj up ((pm.map (·.2)).nodup_iff.mpr d.one) fun k => ?_
      rw [(pm.map (·.2)).mem_iff]
      constructor
      · intro hk
        obtain ⟨p, hp, rfl⟩ := List.mem_map.mp hk
        exact (List.of_mem_zip (d.sub p hp)).2
      · intro hk
        obtain ⟨i, hi⟩ := List.mem_iff_getElem?.mp hk
        have il : i < us.length := by rw [len]; exact (List.getElem?_eq_some_iff.mp hi).1
        have hz : (us.zip ks)[i]? = some (us[i], k) := by
          rw [List.getElem?_zip_eq_some]
          exact ⟨List.getElem?_eq_getElem il, hi⟩
        exact d.all _ (List.mem_of_getElem? hz)
    have J : Inv X pins σ (upd H p (.lst (L2.map fun p => backV p.1))) { s with heap := s2.heap, gens := s2.gens, drawn := s2.drawn, toks := s2.toks } :=
      I.call (ch := []) (Un.laid g hz hn) (I.hok.laid g hz ⟨z1, out.toList, c, v1, ho⟩) (by rw [eg]; exact I.bare) (fun _ z => nomatch z)
    have es : s2 = { s with heap := s2.heap, gens := s2.gens, drawn := s2.drawn, toks := s2.toks } := by
      obtain ⟨h2, g2, d2, t2, o2⟩ := s2
      obtain rfl : o2 = s.os := eo
      rfl
    rw [es]
    refine ⟨.ref p, _, J, rfl, q p _ hn ?_⟩
    rw [← e2]
    exact rps_back fun p hp => (at_ p (sub p hp)).2
theorem pe_srtSet {n : Nat} {ta : TE} (dk : DKind X D enc) (hr : Room n X.A) (few : ks.length < 64) (hg : Gl X "sorted") (hm : X.mg "sorted" = none) (hg2 : Gl X "set") (hm2 : X.mg "set" = none) (ha : PE X a ta)
    (na : starEach [a] X.env = (false, eval a X.env) :: starEach [] X.env := by rfl) : PE X (.Call (.Name "sorted" p) [.Call (.Name "set" p2) [a] [] q] [] pos) (tSrtSet X.K enc ks ta) := by
  have bs : bootBuiltins "sorted" = some (.builtin "sorted") := by decide +kernel
  have hu := hr.units
  refine ⟨fun pins s σ H Q I h => ?_⟩
  refine Call_ (ld_blt I hg hm bs (PyProof.Rows.callWith_builtin1 (PyProof.Rows.args_cons (Call_ (ld_blt I hg2 hm2 PyProof.Rows.boot_set ?_)) rfl) rfl rfl))
  refine PyProof.Rows.callWith_type1 (PyProof.Rows.args_cons (thn (ha.run pins s σ H _ I h) fun v s1 ⟨x, H1, I1, r1, z1⟩ => PyProof.Rows.args_nil ?_) na) na rfl
  obtain ⟨M, l, xs, trk, rfl, hq, rs, q1⟩ := z1
  cases r1
  rcases hq with hq | hq
  · obtain ⟨its, rv, pl, _⟩ := I1.list hq
    obtain ⟨len, z⟩ := zip_of dk I1 rv rs
    have e1 : (its.zip ks).map (·.1) = its := List.map_fst_zip (Nat.le_of_eq len)
    refine set_of_list D (its.zip ks) hr.hd pl.isList (by rw [List.toList_toArray, e1]) (fun p hp => (z p hp).1) (by rw [List.length_zip]; omega) (by omega) fun h' tk L hL d g => PyProof.Rows.args_nil ?_
    exact srt_run dk (I1.kept (t' := tk) g) trk hL hr.hd hu few len d (fun p hp => (z p hp).2) q1
  · obtain ⟨its, rv, pl, _⟩ := I1.tuple hq
    obtain ⟨len, z⟩ := zip_of dk I1 rv rs
    have e1 : (its.zip ks).map (·.1) = its := List.map_fst_zip (Nat.le_of_eq len)
    refine set_of_tuple D (its.zip ks) hr.hd pl (by rw [List.toList_toArray, e1]) (fun p hp => (z p hp).1) (by rw [List.length_zip]; omega) (by omega) fun h' tk L hL d g => PyProof.Rows.args_nil ?_
    exact srt_run dk (I1.kept (t' := tk) g) trk hL hr.hd hu few len d (fun p hp => (z p hp).2) q1
/-- sorted(set(e)) -/
theorem ef_srtSet {n : Nat} (dk : DKind X D enc) (hr : Room n X.A) (hm : X.mg "sorted" = none) (hm2 : X.mg "set" = none) (ha : EvS X C δ a (ks.map enc)) (few : ks.length < 64) (hg : Gl X "sorted" := by rfl) (hg2 : Gl X "set" := by rfl) (hK : C.K = X.K := by rfl)
    (na : starEach [a] X.env = (false, eval a X.env) :: starEach [] X.env := by rfl) : EvF X C δ (.Call (.Name "sorted" p) [.Call (.Name "set" p2) [a] [] q] [] pos) ((setS enc ks).map enc) :=
  EvF.mk (pe_srtSet dk hr few hg hm hg2 hm2 ha na) fun M σ H Q ok q => ⟨M, ok, fun l vs H1 sm s hz hq r => ⟨M, l, vs, (ok.mono s).trk, rfl, by rw [← hK]; exact hq, r, fun p zs hp rz sm2 => q p zs _ sm2 (s.trans (same_new hp)) (Same.free s hp) upd_same (rz.mono (new_hid (ok.mono s).trk hp))⟩⟩
theorem ef_setTx {n : Nat} {ks : List Str} (hr : Room n X.A) (hm : X.mg "sorted" = none) (hm2 : X.mg "set" = none) (ha : EvS X C δ a (ks.map .str)) (few : ks.length < 64) (hg : Gl X "sorted" := by rfl) (hg2 : Gl X "set" := by rfl) (hK : C.K = X.K := by rfl)
    (na : starEach [a] X.env = (false, eval a X.env) :: starEach [] X.env := by rfl) : EvF X C δ (.Call (.Name "sorted" p) [.Call (.Name "set" p2) [a] [] q] [] pos) ((setS .str ks).map .str) := ef_srtSet dk_tx hr hm hm2 ha few hg hg2 hK na
theorem ef_setTu {n : Nat} {ks : List (List Str)} (hr : Room n X.A) (hm : X.mg "sorted" = none) (hm2 : X.mg "set" = none) (ha : EvS X C δ a (ks.map eK)) (few : ks.length < 64) (hg : Gl X "sorted" := by rfl) (hg2 : Gl X "set" := by rfl) (hK : C.K = X.K := by rfl)
    (na : starEach [a] X.env = (false, eval a X.env) :: starEach [] X.env := by rfl) : EvF X C δ (.Call (.Name "sorted" p) [.Call (.Name "set" p2) [a] [] q] [] pos) ((setS eK ks).map eK) := ef_srtSet dk_tu hr hm hm2 ha few hg hg2 hK na
end
end Kl
/-! KlDct: dicts whose keys are tuples of texts: frozen, walked, asked. -/
namespace Kl
open PySem PySem.Spec PyProof.Rows L2

/-! ### keys -/
abbrev kIn (k : List Str) : List Key := k.map Sum.inr
theorem kIn_inj {a b : List Str} (h : kIn a = kIn b) : a = b := by
  induction a generalizing b with
  | nil => cases b with
    | nil => rfl
    | cons y r => simp [kIn] at h
  | cons x r ih => cases b with
    | nil => simp [kIn] at h
    | cons y t =>
      simp only [kIn, List.map_cons, List.cons.injEq] at h
      obtain ⟨h1, h2⟩ := h
      cases h1
      rw [ih h2]
theorem valV_kv (k : List Str) : ∀ L : List (List Str × V), valV (kvOf L) (kIn k) = valV L k
  | [] => rfl
  | p :: r => by
    have e : kvOf (p :: r) = (kIn p.1, p.2) :: kvOf r := rfl
    rw [e]
    by_cases h : p.1 = k
    · rw [valV_pos h, valV_pos (show kIn p.1 = kIn k by rw [h])]
    · rw [valV_neg h, valV_neg (fun z => h (kIn_inj z)), valV_kv k r]
theorem any_kv (k : List Str) : ∀ L : List (List Str × V), ((kvOf L).any fun kv => decide (kv.1 = kIn k)) = (L.any fun kv => decide (kv.1 = k))
  | [] => rfl
  | p :: r => by
    have e : kvOf (p :: r) = (kIn p.1, p.2) :: kvOf r := rfl
    rw [e, List.any_cons, List.any_cons, any_kv k r]
    congr 1
    by_cases h : p.1 = k
    · simp [h]
    · have : kIn p.1 ≠ kIn k := fun z => h (kIn_inj z)
      simp [h, this]
theorem putK_kv (k : List Str) (v : V) (L : List (List Str × V)) : putK (kvOf L) (kIn k) v = kvOf (putK L k v) := by
  unfold putK
  rw [any_kv]
  split
  · unfold kvOf
    rw [List.map_map, List.map_map]
    refine List.map_congr_left fun p _ => ?_
    show (if kIn p.1 = kIn k then (kIn p.1, v) else (kIn p.1, p.2)) = _
    by_cases h : p.1 = k
    · simp [Function.comp, h]
    · have : kIn p.1 ≠ kIn k := fun z => h (kIn_inj z)
      simp [Function.comp, h, this]
  · simp [kvOf]
theorem putK_new {L : List (List Str × V)} {k : List Str} {v : V} (h : k ∉ L.map (·.1)) : putK L k v = L ++ [(k, v)] := by
  unfold putK
  rw [if_neg]
  intro z
  obtain ⟨p, hp, e⟩ := List.any_eq_true.mp z
  exact h (List.mem_map.mpr ⟨p, hp, of_decide_eq_true e⟩)
theorem eK_kV (k : List Str) : (kIn k).map kV = k.map V.str := by rw [List.map_map]; rfl
theorem vD_inj {u v : V} (h : vD u = vD v) (hu : scalV u = true) (hv : scalV v = true) : u = v := by
  cases u <;> cases v <;> simp_all [vD, scalV]
theorem rp_scal {H : Hp} {v : V} (h : scalV v = true) : Rp H v (vD v) := by
  cases v <;> simp_all [scalV, vD] <;> constructor
theorem str_map_inj : ∀ {a b : List Str}, a.map PyData.str = b.map PyData.str → a = b
  | [], [], _ => rfl
  | [], _ :: _, h => by simp at h
  | _ :: _, [], h => by simp at h
  | x :: a, y :: b, h => by
    simp only [List.map_cons, List.cons.injEq, PyData.str.injEq] at h
    rw [h.1, str_map_inj h.2]
theorem eK_inj {a b : List Str} (h : eK a = eK b) : a = b := str_map_inj (by simpa [eK] using h)
theorem kd_inj : ∀ {L L' : List (List Str × V)}, kdOf L = kdOf L' → (∀ p ∈ L, scalV p.2 = true) → (∀ p ∈ L', scalV p.2 = true) → L = L'
  | [], [], _, _, _ => rfl
  | [], _ :: _, h, _, _ => by simp [kdOf] at h
  | _ :: _, [], h, _, _ => by simp [kdOf] at h
  | p :: L, p' :: L', h, h1, h2 => by
    simp only [kdOf, List.map_cons, PyData.dict.injEq, List.cons.injEq, Prod.mk.injEq] at h
    obtain ⟨⟨e1, e2⟩, e3⟩ := h
    have a := eK_inj e1
    have b := vD_inj e2 (h1 p List.mem_cons_self) (h2 p' List.mem_cons_self)
    have c := kd_inj (L := L) (L' := L') (by simp only [kdOf, e3]) (fun q hq => h1 q (List.mem_cons_of_mem _ hq)) fun q hq => h2 q (List.mem_cons_of_mem _ hq)
    rw [c]
    congr 1
    exact Prod.ext a b
theorem rp_dic {H : Hp} {v : V} {L : List (List Str × V)} (sc : ∀ p ∈ L, scalV p.2 = true) (h : Rp H v (kdOf L)) : ∃ a o, v = .ref a ∧ H a = some (.frz o (.dT (kvOf L))) := by
  generalize hd : kdOf L = d at h
  cases h with
  | @dic a o L' sc' ha =>
    have e := kd_inj hd sc sc'
    subst e
    exact ⟨a, o, rfl, ha⟩
  | _ => simp [kdOf] at hd
theorem rp_key {H : Hp} {v : V} {k : List Str} (h : Rp H v (eK k)) : ∃ b, v = .ref b ∧ H b = some (.tup ((kIn k).map kV)) := by
  cases h with
  | @tup a xs _ h r =>
    have e := r.strs
    subst e
    exact ⟨a, rfl, by rw [eK_kV]; exact h⟩

/-! ### a dict is frozen -/
section
variable {X : Cx}
theorem pe_frz {e : Expr} {t : TE} (h : PE X e t) : PE X e (fun σ H Q => t σ H fun v H' => ∃ d u, v = .ref d ∧ H' d = some u ∧ Mut (some u) ∧ ∀ od, Q v (upd H' d (.frz od u))) := ⟨fun pins s σ H Q I q =>
  thn (h.run pins s σ H _ I q) fun v s1 ⟨x, H1, I1, r, d, u, ex, hd, mu, k⟩ => by
    obtain ⟨od, I2⟩ := I1.lock hd mu
    exact ⟨x, _, I2, r, k od⟩⟩
theorem pss_frz {sts : List Stmt} {t : TS} (h : PSs X sts t) : PSs X sts (fun D σ H => ∃ d u, H d = some u ∧ Mut (some u) ∧ ∀ od, t D σ (upd H d (.frz od u))) := ⟨fun pins s σ H D I ⟨d, u, hd, mu, k⟩ => by
  obtain ⟨od, I2⟩ := I.lock hd mu
  exact h.run pins s σ _ D I2 (k od)⟩

/-! ### pairs of a frozen dict -/
theorem frz_vals {pins : List (Addr × Obj)} {σ : L2.St} {H : Hp} {s : Shared} {d : Addr} {o : Obj} {kvs : List (List Key × V)} (I : Inv X pins σ H s) (h : H d = some (.frz o (.dT kvs))) :
    (d == sysModules) = false ∧ ∃ (es : Array DictEntry) (ep : Nat), DT.Raw s.heap d es ep ∧ o.data = .dict es ep ∧ es.size = kvs.length ∧
      ∀ (i : Nat) (k : List Key) (v : V), kvs[i]? = some (k, v) → ∃ (en : DictEntry) (q : Addr), es[i]? = some en ∧ en.key = .ref q ∧ RelV v en.val ∧ H q = some (.tup (k.map kV)) := by
  obtain ⟨hd, _, nm, xs, pr, o', es, ep, ho, ex, dat, he, _⟩ := I.hok d _ h
  rw [hd] at ho
  cases ho
  refine ⟨nm, es, ep, ⟨o, hd, ex, dat⟩, dat, ?_, fun i k v e => ?_⟩
  · have l1 : es.size = xs.length := size_of_entries he
    have l2 : kvs.length = xs.length := Paired.length pr
    omega
  · obtain ⟨b, hb, _, e2, e3⟩ := paired_get pr e
    have q := entry_at he i
    rw [hb] at q
    exact ⟨_, b.2.1, q, rfl, e3, e2⟩
/-- the pairs, each a new tuple of the key's own tuple and the value -/
def ItP (d : Addr) (o : Obj) (kvs : List (List Key × V)) : It where
  go i H := H d = some (.frz o (.dT kvs)) ∧ i < kvs.length
  yld i H x H' := ∃ T k v q, kvs[i]? = some (k, v) ∧ H q = some (.tup (k.map kV)) ∧ x = .ref T ∧ H T = none ∧ H' = upd H T (.tup [.ref q, v])
  stop i H := H d = some (.frz o (.dT kvs)) ∧ kvs.length ≤ i
end
theorem turnP {P : Program} {w : World} {K : PySem.W.Frag} {d : Addr} {o : Obj} {es : Array DictEntry} {ep : Nat} {kvs : List (List Key × V)} {elts : List Expr} {kk : Nat} {tpos : Pos} (it : Addr) (dat : o.data = .dict es ep) :
    Turn P w K (.Tuple elts kk tpos) (ItP d o kvs) [it] it (fun i h => ∃ x y, IsItemIter h it d i kvs.length ep x y) := by
  refine ⟨List.mem_singleton.mpr rfl, fun i h ⟨x, y, e⟩ b hb => ?_, fun i h h' ⟨x, y, e⟩ k => ⟨x, y, k it (List.mem_singleton.mpr rfl) _ e⟩, ?_, ?_, fun A i s Q E ⟨_, _, e⟩ h => PySem.W.kcp_self e h⟩
  · rw [List.mem_singleton.mp hb]
    exact ⟨_, e, fun v z => nomatch z⟩
  · rintro X rfl rfl rfl cm i pins s σ H E I hf ⟨x, y, st⟩ ⟨hd, hi⟩
    obtain ⟨_, es', ep', raw, dat', sz, ent⟩ := frz_vals I hd
    obtain ⟨rfl, rfl⟩ := dict_ep dat dat'
    obtain ⟨k, v, hkv⟩ : ∃ k v, kvs[i]? = some (k, v) := ⟨_, _, List.getElem?_eq_getElem hi⟩
    obtain ⟨en, q, hen, ek, rv, hq⟩ := ent i k v hkv
    have below : it < s.heap.objs.size := Heap.lt_size st
    have isz : i < es'.size := by omega
    have een : es'[i] = en := (Array.getElem?_eq_some_iff.mp hen).2
    rw [← sz] at st
    refine DT.nextI st raw isz fun h1 out tup z1 keep => ⟨_, rfl, wpAny_letOwnedTupleGo_items (s := { s with heap := h1 }) out fun h2 st2 sb => ?_⟩
    rw [een] at tup
    have tup2 := (sb.2 s.heap.objs.size (Nat.ne_of_gt below)).trans tup
    have new : ObjOk X.prog X.w (upd H s.heap.objs.size (.tup [.ref q, v])) h2 s.heap.objs.size (.tup [.ref q, v]) :=
      ⟨by show 2 ≤ sizeLine; decide, [en.key, en.val], .cons ek (.cons rv .nil), ⟨_, tup2, rfl, _, rfl⟩⟩
    have I1 : Inv X pins σ (upd H s.heap.objs.size (.tup [.ref q, v])) { s with heap := h2 } :=
      I.turnedNew (t' := s.toks) (ch := [it]) (fun b ob hb e => by
        have ne : b ≠ it := fun z => hb (List.mem_singleton.mpr z)
        exact (sb.2 b ne).trans (keep b ob ne e)) hf (Nat.le_refl _) new
    refine ⟨.ref s.heap.objs.size, _, I1, rfl, ⟨_, k, v, q, hkv, hq, rfl, I.hok.fresh (Nat.le_refl _), rfl⟩, ⟨_, _, by rw [← sz]; exact st2⟩, fun b hb => ?_⟩
    rw [List.mem_singleton.mp hb, upd_ne (Nat.ne_of_lt below)]
    exact (hf it (List.mem_singleton.mpr rfl)).1
  · rintro X rfl rfl rfl cm i pins s σ H E I hf ⟨x, y, st⟩ ⟨hd, hi⟩
    obtain ⟨f0, f1, f2, f3, f4, f5⟩ := hf it (List.mem_singleton.mpr rfl)
    obtain ⟨_, es', ep', raw, dat', sz, _⟩ := frz_vals I hd
    obtain ⟨rfl, rfl⟩ := dict_ep dat dat'
    rw [← sz] at st
    exact DT.endI (I.ok.hd cm) st raw (by omega) fun h1 eb => ⟨rfl, I.turned (t' := s.toks) (fun b ob hb e => eb b ob hb e) f0 f1 f3 f4 f5⟩
section
variable {X : Cx}
def iPairs (td : TE) : TI := fun σ H R => td σ H fun x H1 => ∃ d o kvs, x = .ref d ∧ H1 d = some (.frz o (.dT kvs)) ∧ R (ItP d o kvs) H1
theorem pi_pairs {e : Expr} {td : TE} {apos cpos tpos : Pos} {elts : List Expr} {kk : Nat} (he : PE X e td) (hbase : attributeBase e "items" X.env (eval e X.env) = eval e X.env := by rfl) (hline : (apos.endLine == cpos.line) = true := by rfl) :
    PI X (.Tuple elts kk tpos) (.Call (.Attribute e "items" apos) [] [] cpos) (iPairs td) := by
  refine ⟨fun pins s σ H R I h => wpAny_Call_method (T := "dict") (id := "dict.items") hbase rfl hline F.plainAttrs_dict F.slot_dict_items F.type_dict_items (thn (he.run pins s σ H _ I h) fun u s1 ⟨x, H1, I1, rx, d, o, kvs, ex, hd, q⟩ => ?_)⟩
  subst ex
  cases rx
  obtain ⟨nm, es, ep, raw, dat, sz, _⟩ := frz_vals I1 hd
  have noD : ∀ b, Value.ref d = .ref b → ∃ ob, s1.heap.get? b = some ob ∧ ob.dict = none := fun b z => by
    cases z
    obtain ⟨ob, h1, h2, _⟩ := raw
    exact ⟨ob, h1, h2.2.1⟩
  refine ⟨raw.typeIs, noD, ?_⟩
  have I2 : Inv X pins σ H1 { s1 with heap := s1.heap.push { cls := .type "dict_items", data := .fields #[.ref d] } } := I1.kept (t' := s1.toks) fun b ob z => Heap.get?_push_of_some _ z
  have fin : wpAny (model X.prog X.w) X.A (pyIter (.ref s1.heap.objs.size)) (PIE X pins σ (.Tuple elts kk tpos) R) X.xe { s1 with heap := s1.heap.push { cls := .type "dict_items", data := .fields #[.ref d] } } := by
    refine DT.iterI (d := d) ⟨_, Heap.get?_push_size _ rfl, rfl, rfl⟩ (raw.push _) (pi_one (tk := s1.toks) I2 _ (turnP _ dat) ⟨.none, .none, ?_⟩ q)
    rw [← sz]
    exact Heap.get?_push_size _ rfl
  exact method_meetsIn F.slot_dict_items F.entry_dict_items rfl (PySem.evalArgs_none ⟨rfl, raw.typeIs, F.args_dict_items_1 _, _, DT.meetsItems (es := es) (ep := ep) nm, ⟨raw, fin⟩⟩)
end
end Kl
/-! KlDc2: a dict comprehension whose keys are tuples. -/
namespace Kl
open PySem PySem.Spec PyProof.Rows L2
section
variable {X : Cx}
/-- D: the new dict -/
def tDct (wi : TI) (g : TG) (tk tv : TE) (vs : List Nat) : TE := fun σ H Q => wi σ H fun J H1 => ∀ D, H1 D = none → ∃ W : Nat → Nat → Hp → Prop, (∃ m, W 0 m (upd H1 D (.dT []))) ∧ ∀ i m H, W i m H →
  (J.stop i H ∧ Q (.ref D) H) ∨ (J.go i H ∧ ∃ Nx : Hp → Prop, (∀ H', Nx H' → ∃ m', m' < m ∧ W (i + 1) m' H') ∧ ∀ x H', J.yld i H x H' → g x (L2.wipe σ vs) H' fun σ2 H2 => L2.wipe σ2 vs = L2.wipe σ vs ∧
    tk σ2 H2 fun y H4 => tv σ2 H4 fun z H5 => ∃ kvs k b, y = .ref b ∧ H5 b = some (.tup (k.map kV)) ∧ H5 D = some (.dT kvs) ∧ kvs.length < sizeLine ∧ Nx (upd H5 D (.dT (putK kvs k z))))
theorem set_dT {pins : List (Addr × Obj)} {σ : L2.St} {H : Hp} {s : Shared} {D b : Addr} {kvs : List (List Key × V)} {k : List Key} {v : V} {r : Value} {E : Value → Shared → Prop} {Q : Unit → Shared → Prop} (hu : X.A.units < cLine) (I : Inv X pins σ H s) (hb : H b = some (.tup (k.map kV))) (hD : H D = some (.dT kvs))
    (hz : kvs.length < sizeLine) (rv : RelV v r) (q : ∀ s2, Inv X pins σ (upd H D (.dT (putK kvs k v))) s2 → Q () s2) : wpAny (model X.prog X.w) X.A (dictSet D (.ref b) r) Q E s := by
  obtain ⟨_, nm, xs, rel, dd⟩ := dt_of I.hok hD
  have zx : xs.length ≤ sizeLine := by rw [← Paired.length rel]; omega
  have zl : (putK kvs k v).length ≤ sizeLine := Nat.le_trans (length_putK kvs k v) hz
  refine wpAny_dictSet_heap (hsz := zx) (knd := tupleKind (mixKind X.prog X.w)) hu (key_of I.hok hb) dd fun h2 dd2 sb => q _ ?_
  obtain ⟨ob, es, ep, h3, h4, h5, h6, _, h7⟩ := dd2
  refine d_write I (by rw [hD]; exact True.intro) sb ⟨ob, h3⟩ ⟨zl, nm, _, (rel.put k hb rv).keeps fun c ys ec => ?_, ob, es, ep, h3, h4, h5, h6, h7⟩
  rw [upd_ne (ne_of ec hD fun z => nomatch z)]
  exact ec
theorem pe_dct {kx vx tg iter : Expr} {scope : Scope} {own : List (Str × Nat)} {pos : Pos} {wi : TI} {g : TG} {tk tv : TE} (cm : X.calm = true) (nd : X.N.Nodup) (hu : X.A.units < cLine) (hi : PI X tg iter wi) (ok : BlkOk X.N X.env.scope scope own)
    (hg : ∀ (s : Shared) (H : Hp) (C : Addr) (cl : List (Str × Addr)) (fp : List Addr), PG (X.blk s H scope (compEnvC scope cl C X.env) fp) tg g)
    (hk : ∀ (s : Shared) (H : Hp) (C : Addr) (cl : List (Str × Addr)) (fp : List Addr), PE (X.blk s H scope (compEnvC scope cl C X.env) fp) kx tk)
    (hv : ∀ (s : Shared) (H : Hp) (C : Addr) (cl : List (Str × Addr)) (fp : List Addr), PE (X.blk s H scope (compEnvC scope cl C X.env) fp) vx tv) (hs : ∀ x, foldedSetIterable iter X.env x = pure x := by intro _; rfl) :
    PE X (.DictComp kx vx [⟨tg, iter, [], 0⟩] scope pos) (tDct wi g tk tv (own.map (·.2))) := by
  refine ⟨fun pins s σ H Q I h => ?_⟩
  have cells : ∀ y ∈ scope.names, y.2 = .free → ∃ c, X.env.cells.lookup y.1 = some c := fun y hy e => (ok.free y hy e).elim (fun z => I.ok.has _ (.inl z)) fun z => I.ok.has _ (.inr z)
  rw [arm_eval_DictComp]
  refine wpAny_comprehension_free (use := none) rfl hs (closure_ok cells) ok.kind (fun y hy e => by rw [ok.uniq y hy, e]) (thn (hi.run pins s σ H _ I h) fun xv s1 hx => thn hx fun itv s2 ⟨it, fp, tn, J, H2, e, I2, T, st2, f2, q⟩ => ?_)
  subst e
  refine wpAny_newObj_type (newEnv_comp ?_)
  generalize eD : s2.heap.objs.size = D
  have freeD : H2 D = none := I2.hok.fresh (Nat.le_of_eq eD)
  obtain ⟨W, ⟨m0, w0⟩, turn⟩ := q D freeD
  have low : ∀ b ∈ fp, b < D := fun b hb => by
    obtain ⟨o, e, _⟩ := T.obj _ _ st2 b hb
    rw [← eD]
    exact Heap.lt_size e
  generalize e3 : ({ s2 with heap := s2.heap.push { cls := .type "dict", data := .dict #[] } } : Shared) = s3
  have sz3 : s3.heap.objs.size = D + 1 := by rw [← e3, ← eD]; exact Heap.size_push ..
  have gro3 : ∀ b o, s2.heap.get? b = some o → s3.heap.get? b = some o := fun b o e => by rw [← e3]; exact Heap.get?_push_of_some _ e
  have I3 : Inv X pins σ (upd H2 D (.dT [])) s3 := by
    rw [← e3]
    refine I2.laid (t' := s2.toks) (fun b o e => Heap.get?_push_of_some _ e) (Nat.le_of_eq eD) ?_
    rw [← eD]
    exact dt_empty s2.heap I2.big
  have st3 : tn 0 s3.heap := T.keep _ _ _ st2 fun b _ o e => gro3 b o e
  have f3 : ∀ b ∈ fp, FpOk X pins (upd H2 D (.dT [])) b ∧ b < s3.heap.objs.size := fun b hb =>
    ⟨⟨by rw [upd_ne (Nat.ne_of_lt (low b hb))]; exact (f2 b hb).1, (f2 b hb).2⟩, by rw [sz3]; exact Nat.lt_succ_of_lt (low b hb)⟩
  have I4 := block_start I3 ok nd f3
  generalize eH : upd H2 D (.dT []) = H3 at I3 I4 w0 f3
  generalize ece : compEnvC scope (cellsFrom (s3.heap.objs.size + 1) scope.names (cloFrom X.env.cells scope.names [])) s3.heap.objs.size X.env = ce at I4
  have pg := hg s3 H3 s3.heap.objs.size (cellsFrom (s3.heap.objs.size + 1) scope.names (cloFrom X.env.cells scope.names [])) fp
  have pk := hk s3 H3 s3.heap.objs.size (cellsFrom (s3.heap.objs.size + 1) scope.names (cloFrom X.env.cells scope.names [])) fp
  have pv := hv s3 H3 s3.heap.objs.size (cellsFrom (s3.heap.objs.size + 1) scope.names (cloFrom X.env.cells scope.names [])) fp
  rw [ece] at pg pk pv
  have eL : ce.locals = s3.heap.objs.size := by rw [← ece]; rfl
  generalize e4 : ({ s3 with heap := pushCells (s3.heap.push { cls := .type "dict", data := .dict #[] }) scope.names } : Shared) = s4 at I4
  have goal : codeAny (model X.prog X.w) X.A (.compStart (.DictComp kx vx [⟨tg, iter, [], 0⟩] scope pos) 0 (.ref it) (.ref D) ce) (compPost (model X.prog X.w) X.A X.xe none (EP X pins σ Q) (.ref D) s3.heap.objs.size) s4 := by
    have st4 : tn 0 s4.heap := T.keep _ _ _ st3 fun b _ o e => by rw [← e4]; exact pushCells_keeps _ _ _ _ (Heap.get?_push_of_some _ e)
    have fpOk : ∀ {σ' : L2.St} {H' : Hp} {s' : Shared}, Inv (X.blk s3 H3 scope ce fp) [] σ' H' s' → (∀ b ∈ fp, H' b = none) → ∀ b ∈ fp, FpOk (X.blk s3 H3 scope ce fp) [] H' b := fun {σ' H' s'} J' none_ b hb =>
      ⟨none_ b hb, (J'.ok.exf b hb).1, J'.ok.exfs b hb, .inl hb, fun x c e => (J'.ok.exf b hb).2 x c e, fun p hp => nomatch (show p ∈ ([] : List (Addr × Obj)) from hp)⟩
    have loop : codeAny (model X.prog X.w) X.A (.compLoop (.DictComp kx vx [⟨tg, iter, [], 0⟩] scope pos) 0 (.ref it) (.ref D) ce) (compPost (model X.prog X.w) X.A X.xe none (EP X pins σ Q) (.ref D) s3.heap.objs.size) s4 := by
      refine compLoop_anyD (fun n s' => ∃ i H', Inv (X.blk s3 H3 scope ce fp) [] (L2.wipe σ (own.map (·.2))) H' s' ∧ tn i s'.heap ∧ (∀ b ∈ fp, H' b = none) ∧ W i n H') (fun n s5 ⟨i, H5, I5, st5, n5, w5⟩ => ?_) m0 ⟨0, H3, I4, st4, fun b hb => (f3 b hb).1.1, w0⟩
      rcases turn i n H5 w5 with ⟨stop, qq⟩ | ⟨go, Nx, hNx, step⟩
      · refine thnF (T.done (X.blk s3 H3 scope ce fp) rfl rfl rfl cm i [] s5 _ H5 (fun _ _ => False) I5 (fpOk I5 n5) st5 stop) fun r s6 ⟨er, I6⟩ => ?_
        subst er
        have I7 : Inv X pins σ H5 s6 := I3.call' (ch := fp) I6.os I6.base I6.hok I6.bare fun b hb => ⟨(f3 b hb).1.2.2.2.1, (f3 b hb).1.2.1, (f3 b hb).1.2.2.2.2.1, (f3 b hb).1.2.2.2.2.2⟩
        have noC : H5 s3.heap.objs.size = none := by rw [← eL]; exact I6.free
        obtain ⟨m, ns, _⟩ := I6.loc
        refine ⟨m, by rw [← eL]; exact ns, fun h7 sb => ?_⟩
        obtain ⟨a0, a1, a2, a3, a4, a5⟩ := I3.fpOk (Nat.le_refl _) noC
        exact ⟨.ref D, H5, I7.turned (t' := s6.toks) (fun b o hb e => (sb.2 b hb).trans e) a0 a1 a3 a4 a5, rfl, qq⟩
      · refine thnF (T.item (X.blk s3 H3 scope ce fp) rfl rfl rfl cm i [] s5 _ H5 (fun _ _ => False) I5 (fpOk I5 n5) st5 go) fun r s6 ⟨u, er, h6⟩ => ?_
        subst er
        refine thnF h6 fun _ s7 ⟨x, H7, I7, r7, y7, st7, n7⟩ => ?_
        refine thnF (pg.run _ s7 _ H7 x u _ (I7.pinned (fpOk I7 n7) (T.obj _ _ st7)) r7 (step x H7 y7)) fun _ s8 ⟨σ8, H8, I8, w8, q8⟩ => ?_
        refine wpAny_pure ?_
        refine thnF (pk.run _ s8 σ8 H8 _ I8 q8) fun z s9 ⟨yk, H9, I9, r9, q9⟩ => ?_
        refine thnF (pv.run _ s9 σ8 H9 _ I9 q9) fun z2 s10 ⟨yv, H10, I10, r10, kvs, k, b, ek, hb, hD, hz, nx⟩ => ?_
        subst ek
        cases r9
        refine set_dT (X := X.blk s3 H3 scope ce fp) hu I10 hb hD hz r10 fun s11 I11 => ?_
        obtain ⟨m2, lt, w2⟩ := hNx _ nx
        have pin : ∀ c ∈ fp, ∀ o, s7.heap.get? c = some o → s11.heap.get? c = some o ∧ (upd H10 D (.dT (putK kvs k yv))) c = none := fun c hc o e =>
          let z := I11.pin (c, o) (List.mem_append_right _ (List.mem_append_right _ (mem_pinsAt hc e)))
          ⟨z.1, z.2.1⟩
        refine ⟨m2, lt, i + 1, _, (I11.unpinned (pins := [])).weak (by rw [← w8, wipe_length]) (fun j v e => ?_), T.keep _ _ _ st7 fun c hc o e => (pin c hc o e).1, fun c hc => ?_, w2⟩
        · rw [← w8] at e
          exact (wipe_some e).1
        · obtain ⟨o, e, _⟩ := T.obj _ _ st7 c hc
          exact (pin c hc o e).2
    exact codeAny_compStart_dict loop (T.self X.A 0 _ _ _ st4 loop)
  rw [← ece] at goal
  exact goal
end
end Kl
/-! KlPar: x, y = a, b. -/
namespace Kl
open PySem PySem.Spec PyProof.Rows L2

/-- a new value: data, or a new thing of one's own -/
def EnOk (M : List Addr) (H H' : Hp) (v : V) : Ent → Prop
  | .dat d => Rp (hid M H') v d
  | .own ds => ∃ l xs, v = .ref l ∧ H l = none ∧ H' l = some (.lst xs) ∧ Rps (hid (l :: M) H') xs ds
  | .tbl ks ds => ∃ l xs, v = .ref l ∧ H l = none ∧ H' l = some (.dK (tb ks xs)) ∧ Rps (hid (l :: M) H') xs ds
  | .dct L => ∃ l, v = .ref l ∧ H l = none ∧ (∀ p ∈ L, scalV p.2 = true) ∧ H' l = some (.dT (kvOf L))
  | _ => False
def tE (C : Cfg) (δ : Dl) (e : Ent) : TE := fun σ H Q => ∃ M, OkM C M δ σ H ∧ ∀ v H', Small H' → Same H H' → EnOk M H H' v e → Q v H'
abbrev EvE (X : Cx) (C : Cfg) (δ : Dl) (x : Expr) (e : Ent) : Prop := PE X x (tE C δ e)
structure Pend (C : Cfg) (M : List Addr) (δ : Dl) (σ : L2.St) (H : Hp) (v : V) (e : Ent) : Prop where
  ok : EntOk C M H v e
  far : isOwn e = true → ∀ (j : Nat) u, δ[j]? = some (some u) → isOwn u = true → σ[j]? ≠ some (some v)
section
variable {X : Cx} {C : Cfg} {M M1 : List Addr} {δ : Dl} {σ : L2.St} {H H1 : Hp} {v w : V} {e1 e2 : Ent} {a b : Expr} {d : PyData} {ds : List PyData} {pos : Pos}
theorem ee_d (h : Ev X C δ a d) : EvE X C δ a (.dat d) := h
theorem ee_o (h : EvF X C δ a ds) : EvE X C δ a (.own ds) := h.imp fun σ H Q ⟨M, ok, q⟩ => ⟨M, ok, fun l xs H' sm s nl hl r => q _ H' sm s ⟨l, xs, rfl, nl, hl, r⟩⟩
theorem ee_dict : EvE X C δ (.Dict [] [] pos) (.dct []) := (PE.small pe_dnewT).imp fun σ H Q ⟨M, ok, q⟩ => fun p hp sm => q _ _ sm (same_new hp) ⟨p, rfl, hp, fun _ h => absurd h (by simp), upd_same⟩
theorem far_new {l : Addr} (ok : OkM C M δ σ H) (nl : H l = none) : ∀ (j : Nat) u, δ[j]? = some (some u) → isOwn u = true → σ[j]? ≠ some (some (.ref l)) := fun j u hj ho z => by
  obtain ⟨v, h1, h2⟩ := ok.val j u hj
  rw [h1] at z
  cases z
  have key : ∀ m ∈ M, m ≠ l := fun m hm e => ok.trk.ne hm (by rw [e]; exact nl)
  cases u with
  | dat d => cases ho
  | scr ns => cases ho
  | own ds' => obtain ⟨l', xs', e1, q2, _⟩ := h2; cases e1; exact key _ q2 rfl
  | tbl ks0 ds' => obtain ⟨l', xs', e1, q2, _⟩ := h2; cases e1; exact key _ q2 rfl
  | dct L => obtain ⟨l', e1, q2, _⟩ := h2; cases e1; exact key _ q2 rfl
  | box n => obtain ⟨l', e1, q2, _⟩ := h2; cases e1; exact key _ q2 rfl
theorem one_more {l : Addr} {o : HO} (ok : OkM C M δ σ H) (s : Same H H1) (nl : H l = none) (hl : H1 l = some o) (no : noTup o = true) : OkM C (l :: M) δ σ H1 :=
  (ok.more nl no).mono fun b u q => by
    by_cases e : b = l
    · rw [e, upd_same] at q; cases q; rw [e]; exact hl
    · rw [upd_ne e] at q; exact s _ _ q
theorem pend_new (ok : OkM C M δ σ H) (s : Same H H1) (h : EnOk M H H1 v e1) : ∃ M1, (∀ m ∈ M, m ∈ M1) ∧ OkM C M1 δ σ H1 ∧ Pend C M1 δ σ H1 v e1 ∧ (∀ m ∈ M1, m ∈ M ∨ (H m = none ∧ v = .ref m)) := by
  cases e1 with
  | dat d => exact ⟨M, fun _ h => h, ok.mono s, ⟨h, fun z => nomatch z⟩, fun m hm => .inl hm⟩
  | own ds =>
    obtain ⟨l, xs, rfl, nl, hl, r⟩ := h
    exact ⟨l :: M, fun m hm => List.mem_cons_of_mem _ hm, one_more ok s nl hl rfl, ⟨⟨l, xs, rfl, List.mem_cons_self, ok.new0 nl (ok.outB nl), hl, r⟩, fun _ => far_new ok nl⟩, fun m hm => (List.mem_cons.mp hm).elim (fun e => .inr (by rw [e]; exact ⟨nl, rfl⟩)) .inl⟩
  | tbl ks0 ds =>
    obtain ⟨l, xs, rfl, nl, hl, r⟩ := h
    exact ⟨l :: M, fun m hm => List.mem_cons_of_mem _ hm, one_more ok s nl hl rfl, ⟨⟨l, xs, rfl, List.mem_cons_self, ok.new0 nl (ok.outB nl), hl, r⟩, fun _ => far_new ok nl⟩, fun m hm => (List.mem_cons.mp hm).elim (fun e => .inr (by rw [e]; exact ⟨nl, rfl⟩)) .inl⟩
  | dct L =>
    obtain ⟨l, rfl, nl, sc, hl⟩ := h
    exact ⟨l :: M, fun m hm => List.mem_cons_of_mem _ hm, one_more ok s nl hl rfl, ⟨⟨l, rfl, List.mem_cons_self, ok.new0 nl (ok.outB nl), sc, hl⟩, fun _ => far_new ok nl⟩, fun m hm => (List.mem_cons.mp hm).elim (fun e => .inr (by rw [e]; exact ⟨nl, rfl⟩)) .inl⟩
  | box n => exact h.elim
  | scr ns => exact h.elim
theorem Pend.mono {M2 : List Addr} (p : Pend C M δ σ H v e1) (s : Same H H1) (hm : ∀ m ∈ M, m ∈ M1) (hn : ∀ m ∈ M1, m ∈ M ∨ H m = none) : Pend C M1 δ σ H1 v e1 := by
  refine ⟨?_, p.far⟩
  have sh : Same (hid M H) (hid M1 H1) := fun b o q => by
    obtain ⟨h1, h2⟩ := hid_of q
    rw [hid_at fun z => (hn b z).elim h1 fun z => by rw [z] at h2; cases h2]
    exact s _ _ h2
  have h := p.ok
  cases e1 with
  | dat d => exact Rp.mono sh h
  | own ds =>
    obtain ⟨l, xs, e, q2, q3, q4, q5⟩ := h
    exact ⟨l, xs, e, hm _ q2, q3, s _ _ q4, q5.mono sh⟩
  | tbl ks0 ds =>
    obtain ⟨l, xs, e, q2, q3, q4, q5⟩ := h
    exact ⟨l, xs, e, hm _ q2, q3, s _ _ q4, q5.mono sh⟩
  | dct L =>
    obtain ⟨l, e, q2, q3, q4, q5⟩ := h
    exact ⟨l, e, hm _ q2, q3, q4, s _ _ q5⟩
  | box n =>
    obtain ⟨l, e, q2, q3, g, s', c, q4, q5⟩ := h
    exact ⟨l, e, hm _ q2, q3, g, s', c, s _ _ q4, q5⟩
  | scr ns =>
    obtain ⟨l, q1, q2⟩ := h
    exact ⟨l, q1, Same.seq sh q2⟩
theorem OkM.putE {i : Nat} (ok : OkM C M δ σ H) (p : Pend C M δ σ H v e1) : OkM C M (δ.set i (some e1)) (σ.set i (some v)) H := by
  cases o : isOwn e1 with
  | false => exact ok.put o p.ok
  | true => exact ok.putO (fun j u _ => p.far o j u) p.ok
theorem put2 {i j : Nat} (ok : OkM C M δ σ H) (p : Pend C M δ σ H v e1) (q : Pend C M δ σ H w e2) (ne : isOwn e1 = true → isOwn e2 = true → w ≠ v) : OkM C M ((δ.set i (some e1)).set j (some e2)) ((σ.set i (some v)).set j (some w)) H := by
  refine (ok.putE p).putE ⟨q.ok, fun o k u hk ho => ?_⟩
  rcases get_set_eq hk with ⟨e, f, g⟩ | ⟨e, f⟩
  · cases f
    subst e
    rw [List.getElem?_set_self (Nat.lt_of_lt_of_le g ok.len)]
    intro z
    exact ne ho o (Option.some.inj (Option.some.inj z)).symm
  · rw [List.getElem?_set_ne (Ne.symm e)]
    exact q.far o k u f ho
/-- two values one behind the other -/
theorem ea_two (ha : EvE X C δ a e1) (hb : EvE X C δ b e2) (h1 : starEach [a, b] X.env = (false, eval a X.env) :: starEach [b] X.env) (h2 : starEach [b] X.env = (false, eval b X.env) :: starEach [] X.env) :
    PA X [a, b] (fun σ H Q => ∃ M, OkM C M δ σ H ∧ ∀ v w M2 H2, Small H2 → Same H H2 → OkM C M2 δ σ H2 → Pend C M2 δ σ H2 v e1 → Pend C M2 δ σ H2 w e2 → (isOwn e1 = true → isOwn e2 = true → w ≠ v) → Q [v, w] H2) :=
  (PA.small (pa_cons ha (pa_cons hb pa_nil h2) h1)).imp fun σ H Q ⟨M, ok, q⟩ => ⟨M, ok, fun v H1 sm1 s1 h => by
    obtain ⟨M1, m1, ok1, p1, n1⟩ := pend_new ok s1 h
    refine ⟨M1, ok1, fun w H2 sm2 s2 h' => ?_⟩
    obtain ⟨M2, m2, ok2, p2, n2⟩ := pend_new ok1 s2 h'
    have p1' : Pend C M2 δ σ H2 v e1 := p1.mono (M2 := M2) s2 m2 fun m hm => (n2 m hm).imp id fun z => z.1
    refine fun sm => q v w M2 H2 sm (s1.trans s2) ok2 p1' p2 fun o1 o2 e => ?_
    subst e
    cases e2 with
    | dat d => cases o2
    | own ds =>
      obtain ⟨l, xs, rfl, nl, _⟩ := h'
      cases e1 with
      | dat d => cases o1
      | own ds1 => obtain ⟨l1, xs1, e, _, hl, _⟩ := h; cases e; rw [nl] at hl; cases hl
      | tbl ks1 ds1 => obtain ⟨l1, xs1, e, _, hl, _⟩ := h; cases e; rw [nl] at hl; cases hl
      | dct L => obtain ⟨l1, e, _, _, hl⟩ := h; cases e; rw [nl] at hl; cases hl
      | box n => exact h
      | scr ns => exact h
    | tbl ks0 ds =>
      obtain ⟨l, xs, rfl, nl, _⟩ := h'
      cases e1 with
      | dat d => cases o1
      | own ds1 => obtain ⟨l1, xs1, e, _, hl, _⟩ := h; cases e; rw [nl] at hl; cases hl
      | tbl ks1 ds1 => obtain ⟨l1, xs1, e, _, hl, _⟩ := h; cases e; rw [nl] at hl; cases hl
      | dct L => obtain ⟨l1, e, _, _, hl⟩ := h; cases e; rw [nl] at hl; cases hl
      | box n => exact h
      | scr ns => exact h
    | dct L2 =>
      obtain ⟨l, rfl, nl, _⟩ := h'
      cases e1 with
      | dat d => cases o1
      | own ds1 => obtain ⟨l1, xs1, e, _, hl, _⟩ := h; cases e; rw [nl] at hl; cases hl
      | tbl ks1 ds1 => obtain ⟨l1, xs1, e, _, hl, _⟩ := h; cases e; rw [nl] at hl; cases hl
      | dct L => obtain ⟨l1, e, _, _, hl⟩ := h; cases e; rw [nl] at hl; cases hl
      | box n => exact h
      | scr ns => exact h
    | box n => exact h'
    | scr ns => exact h'⟩
/-- x, y = a, b with local names -/
theorem hs_par (i j : Nat) {x y : Str} {px py pt : Pos} {kt k2 pt2} {Φ : VK} (nd : X.N.Nodup) (ha : EvE X C δ a e1) (hb : EvE X C δ b e2) (hij : i ≠ j := by decide) (hi : X.N[i]? = some x := by rfl) (hj : X.N[j]? = some y := by rfl) (hc : X.calm = true := by rfl)
    (hx : X.env.scope.names.lookup x = some .local := by rfl) (hy : X.env.scope.names.lookup y = some .local := by rfl) (hw : swappedStores [.Tuple [.Name x px, .Name y py] kt pt] (.Tuple [a, b] k2 pt2) X.env = pure (some [x, y]) := by rfl)
    (hs : swapsWithSole [.Tuple [.Name x px, .Name y py] kt pt] (.Tuple [a, b] k2 pt2) pos.line X.env = pure false := by rfl) (h1 : starEach [a, b] X.env = (false, eval a X.env) :: starEach [b] X.env := by rfl) (h2 : starEach [b] X.env = (false, eval b X.env) :: starEach [] X.env := by rfl) :
    Hs X (Kn C δ) (.Assign [.Tuple [.Name x px, .Name y py] kt pt] (.Tuple [a, b] k2 pt2) pos) (Kn C ((δ.set i (some e1)).set j (some e2))) Φ :=
  (ps_par hc nd hi hj hij hx hy (ea_two ha hb h1 h2) hw hs).imp fun D σ H ⟨⟨M, ok⟩, q, _⟩ => ⟨M, ok, fun v w M2 H2 sm s ok2 p1 p2 ne => ⟨v, w, rfl, q _ _ ⟨M2, put2 ok2 p1 p2 ne⟩⟩⟩
/-- .. through a tuple -/
theorem hs_par' (i j : Nat) {x y : Str} {px py pt : Pos} {kt k2 pt2} {Φ : VK} (nd : X.N.Nodup) (ha : EvE X C δ a e1) (hb : EvE X C δ b e2) (hi : X.N[i]? = some x := by rfl) (hj : X.N[j]? = some y := by rfl) (hc : X.calm = true := by rfl)
    (hx : Loc X.env.scope x := by first | exact Or.inl rfl | exact Or.inr rfl) (hy : Loc X.env.scope y := by first | exact Or.inl rfl | exact Or.inr rfl) (hfx : X.fn x = true ∨ X.env.scope.names.lookup x = some .local := by first | exact .inl rfl | exact .inr rfl) (hfy : X.fn y = true ∨ X.env.scope.names.lookup y = some .local := by first | exact .inl rfl | exact .inr rfl)
    (hw : swappedStores [.Tuple [.Name x px, .Name y py] kt pt] (.Tuple [a, b] k2 pt2) X.env = pure none := by rfl) (hs : swapsWithSole [.Tuple [.Name x px, .Name y py] kt pt] (.Tuple [a, b] k2 pt2) pos.line X.env = pure false := by rfl)
    (h1 : starEach [a, b] X.env = (false, eval a X.env) :: starEach [b] X.env := by rfl) (h2 : starEach [b] X.env = (false, eval b X.env) :: starEach [] X.env := by rfl) (hh : (assignEach [.Tuple [.Name x px, .Name y py] kt pt] X.env).map (·.2) = [assign (.Tuple [.Name x px, .Name y py] kt pt) X.env] := by rfl)
    (g1 : (assignEach [.Name x px, .Name y py] X.env).map (·.2) = assign (.Name x px) X.env :: (assignEach [.Name y py] X.env).map (·.2) := by rfl) (g2 : (assignEach [.Name y py] X.env).map (·.2) = assign (.Name y py) X.env :: (assignEach [] X.env).map (·.2) := by rfl)
    (hn : (assignEach [.Name x px, .Name y py] X.env).length = 2 := by rfl) (hst : (assignEach [.Name x px, .Name y py] X.env).findIdx? (·.1) = none := by rfl) :
    Hs X (Kn C δ) (.Assign [.Tuple [.Name x px, .Name y py] kt pt] (.Tuple [a, b] k2 pt2) pos) (Kn C ((δ.set i (some e1)).set j (some e2))) Φ :=
  (ps_asg (pe_tup (ea_two ha hb h1 h2)) (pg_tup hc (pgs_cons (pg_name nd hi hx hfx) (pgs_cons (pg_name nd hj hy hfy) pgs_nil g2) g1) hn hst) hs hw hh).imp fun D σ H ⟨⟨M, ok⟩, q, _⟩ => ⟨M, ok, fun v w M2 H2 sm s ok2 p1 p2 ne => ⟨by show 2 ≤ sizeLine; decide, fun T hT => by
    have s3 := same_new (o := .tup [v, w]) hT
    exact ⟨T, [v, w], rfl, .inl (.inl upd_same), rfl, v, [w], rfl, w, [], rfl, rfl, q _ _ ⟨M2, put2 (ok2.mono s3) (p1.mono (M2 := M2) s3 (fun _ h => h) fun m h => .inl h) (p2.mono (M2 := M2) s3 (fun _ h => h) fun m h => .inl h) ne⟩⟩⟩⟩
end
end Kl
/-! KlDc3: dicts with tuple keys by data. -/
namespace Kl
open PySem PySem.Spec PyProof.Rows L2

abbrev Scal (L : List (List Str × V)) : Prop := ∀ p ∈ L, scalV p.2 = true
/-- a dict to be read -/
def tDd (C : Cfg) (δ : Dl) (L : List (List Str × V)) : TE := fun σ H Q => ∃ M, OkM C M δ σ H ∧ ∀ a H', Small H' → Same H H' → Rd H' a (.dT (kvOf L)) → Q (.ref a) H'
abbrev EvD (X : Cx) (C : Cfg) (δ : Dl) (e : Expr) (L : List (List Str × V)) : Prop := PE X e (tDd C δ L)
section
variable {X : Cx} {C : Cfg} {δ δ' : Dl} {a b e tg : Expr} {d : PyData} {pos p : Pos} {L : List (List Str × V)} {k : List Str} {v : V}
theorem Ev.dic (h : Ev X C δ e (kdOf L)) (sc : Scal L) : EvD X C δ e L := h.imp fun σ H Q ⟨M, ok, q⟩ => ⟨M, ok, fun v H' sm s r => by
  obtain ⟨a, o, rfl, ha⟩ := rp_dic sc r
  exact q a H' sm s (.inr ⟨o, hid_le _ _ ha⟩)⟩
theorem nd (i : Nat) {x : Str} (hN : X.N[i]? = some x := by rfl) (hδ : δ[i]? = some (some (.dct L)) := by rfl) (hv : Vis X.env.scope x := by first | exact Or.inl rfl | exact Or.inr (Or.inl rfl) | exact Or.inr (Or.inr rfl))
    (hd : (x == ("__debug__" : Str)) = false := by decide) (hcd : (x == ("__classdict__" : Str)) = false := by decide) : EvD X C δ (.Name x pos) L :=
  (PE.small (pe_var hN hv hd hcd)).imp fun σ H Q ⟨M, ok, q⟩ => by
    obtain ⟨v, h1, l, rfl, e2, e3, e4, e5⟩ := ok.val i _ hδ
    exact ⟨.ref l, h1, fun sm => q l H sm (Same.refl H) (.inl e5)⟩
theorem dget {H : Hp} {M : List Addr} {a : Addr} {y : V} (h : Rd H a (.dT (kvOf L))) (r : Rp (hid M H) y (eK k)) : DGet H a y (valV L k) := by
  obtain ⟨b, rfl, hb⟩ := rp_key r
  exact .inr ⟨kvOf L, kIn k, b, h, rfl, hid_le _ _ hb, (valV_kv k L).symm⟩
/-- d[k] -/
theorem ev_get {n : Nat} (hr : Room n X.A) (ha : EvD X C δ a L) (hb : Ev X C δ b (eK k)) (hv : valV L k = some v) (sc : scalV v = true) (hs : NoSl b := by intro _ _; rfl) : Ev X C δ (.Subscript a b pos) (vD v) :=
  Ev.mk (pe_dget (by have := hr.units; omega) ha hb hs) fun M σ H Q ok q => ⟨M, ok, fun l H1 sm s hd => ⟨M, ok.mono s, fun y H2 sm2 s2 r => ⟨l, v, rfl, by
    have hd2 : Rd H2 l (.dT (kvOf L)) := hd.elim (fun z => .inl (s2 _ _ z)) fun ⟨o, z⟩ => .inr ⟨o, s2 _ _ z⟩
    have g := dget hd2 r
    rw [hv] at g
    exact g, fun sm3 => q v H2 sm3 (s.trans s2) (rp_scal sc)⟩⟩⟩
/-- k not in d -/
theorem et_nind {n : Nat} (hr : Room n X.A) (ha : EvD X C δ a L) (hb : Ev X C δ b (eK k)) (hm : behindInMarks .NotIn a = false := by rfl) : EvT X C δ (.Compare b [.NotIn] [a] pos) (!(valV L k).isSome) :=
  EvT.mk (pt_cmp (pc_dnotin (by have := hr.units; omega) hb ha) hm) fun M σ H Q ok q => ⟨M, ok, fun y H1 sm s r => ⟨M, ok.mono s, fun l H2 sm2 s2 hd => ⟨l, _, rfl, dget hd (r.mono (hid_same s2)), _, rfl, fun sm3 => q H2 sm3 (s.trans s2)⟩⟩⟩
/-- a dict of one's own has changed -/
theorem OkM.writeD {M : List Addr} {σ : L2.St} {H : Hp} {i : Nat} {l : Addr} {L2 : List (List Str × V)} (ok : OkM C M δ σ H) (h : δ[i]? = some (some (.dct L))) (hv : σ[i]? = some (some (.ref l))) (hl : l ∈ M) (h0 : C.H0 l = none) (sc : Scal L2) : OkM C M (δ.set i (some (.dct L2))) σ (upd H l (.dT (kvOf L2))) := by
  have sh : ∀ o, hid M (upd H l o) = hid M H := fun o => hid_in hl
  refine ⟨fun a o h1 h2 => ?_, ok.t0, ok.b0, ok.sub, fun m hm => ?_, fun p hp => by rw [sh]; exact ok.pin p hp, by rw [List.length_set]; exact ok.len, fun j e q => ?_, fun j k u u' w h1 h2 h3 h4 h5 h6 => ?_⟩
  · rw [upd_ne (fun z => by rw [z, h0] at h2; cases h2)]
    exact ok.fr a o h1 h2
  · by_cases e : m = l
    · rw [e, upd_same]; exact ⟨_, rfl, rfl⟩
    · rw [upd_ne e]; exact ok.trk m hm
  · rcases get_set_eq q with ⟨e1, e2, _⟩ | ⟨e1, e2⟩
    · cases e2
      subst e1
      exact ⟨.ref l, hv, l, rfl, hl, h0, sc, upd_same⟩
    · obtain ⟨w, h1, h2⟩ := ok.val j e e2
      refine ⟨w, h1, ?_⟩
      have ne : isOwn e = true → w ≠ .ref l := fun ho z => e1 (ok.apart j i e (.dct L) w e2 h ho rfl h1 (by rw [z]; exact hv))
      cases e with
      | dat d => exact (by rw [sh]; exact h2 : Rp (hid M (upd H l (.dT (kvOf L2)))) w d)
      | own ds' =>
        obtain ⟨l', xs', rfl, q2, q3, q4, q5⟩ := h2
        exact ⟨l', xs', rfl, q2, q3, by rw [upd_ne (fun z => ne rfl (by rw [z]))]; exact q4, by rw [sh]; exact q5⟩
      | tbl ks0 ds' =>
        obtain ⟨l', xs', rfl, q2, q3, q4, q5⟩ := h2
        exact ⟨l', xs', rfl, q2, q3, by rw [upd_ne (fun z => ne rfl (by rw [z]))]; exact q4, by rw [sh]; exact q5⟩
      | dct L =>
        obtain ⟨l', rfl, q2, q3, q4, q5⟩ := h2
        exact ⟨l', rfl, q2, q3, q4, by rw [upd_ne (fun z => ne rfl (by rw [z]))]; exact q5⟩
      | box n =>
        obtain ⟨l', rfl, q2, q3, g, s, c, q4, q5⟩ := h2
        exact ⟨l', rfl, q2, q3, g, s, c, by rw [upd_ne (fun z => ne rfl (by rw [z]))]; exact q4, q5⟩
      | scr ns =>
        obtain ⟨l', q1, q2⟩ := h2
        exact ⟨l', q1, by rw [sh]; exact q2⟩
  · have z : ∀ (m : Nat) u, (δ.set i (some (.dct L2)))[m]? = some (some u) → isOwn u = true → ∃ u, δ[m]? = some (some u) ∧ isOwn u = true := fun m u q o => by
      rcases get_set_eq q with ⟨e1, e2, _⟩ | ⟨e1, e2⟩
      · rw [e1]; exact ⟨_, h, rfl⟩
      · exact ⟨u, e2, o⟩
    obtain ⟨u1, z1, z2⟩ := z j u h1 h3
    obtain ⟨u2, z3, z4⟩ := z k u' h2 h4
    exact ok.apart j k u1 u2 w z1 z3 z2 z4 h5 h6
theorem scal_put (sc : Scal L) (hv : scalV v = true) : Scal (putK L k v) := fun p hp => by
  unfold putK at hp
  split at hp
  · obtain ⟨q, hq, e⟩ := List.mem_map.mp hp
    split at e
    · rw [← e]; exact hv
    · rw [← e]; exact sc q hq
  · rcases List.mem_append.mp hp with h | h
    · exact sc p h
    · rw [List.mem_singleton.mp h]; exact hv
/-- d[k] = e -/
theorem hs_put (i : Nat) {n : Nat} {x : Str} {xp sp : Pos} {Φ : VK} (hr : Room n X.A) (he : Ev X C δ e d) (hk : Ev X C δ b (eK k)) (hd : d = vD v) (sc : scalV v = true) (hz : L.length < sizeLine) (hN : X.N[i]? = some x := by rfl) (hδ : δ[i]? = some (some (.dct L)) := by rfl) (hv : Vis X.env.scope x := by first | exact Or.inl rfl | exact Or.inr (Or.inl rfl) | exact Or.inr (Or.inr rfl))
    (hdb : (x == ("__debug__" : Str)) = false := by decide) (hcd : (x == ("__classdict__" : Str)) = false := by decide) (hs : swapsWith e (some (.Subscript (.Name x xp) b sp)) pos.line X.env = pure false := by rfl) :
    Hs X (Kn C δ) (.Assign [.Subscript (.Name x xp) b sp] e pos) (Kn C (δ.set i (some (.dct (putK L k v))))) Φ :=
  (ps_dput (by have := hr.units; omega) (pe_var hN hv hdb hcd) hk he hs).imp fun D σ H ⟨⟨M, ok⟩, q, _⟩ => ⟨M, ok, fun y H1 sm s ry => by
    obtain ⟨u, h1, l, rfl, e2, e3, e4, e5⟩ := ok.val i _ hδ
    refine ⟨.ref l, h1, M, ok.mono s, fun z H2 sm2 s2 rz => ?_⟩
    obtain ⟨c, rfl, hc⟩ := rp_key rz
    have ey : y = v := by
      rw [hd] at ry
      cases v <;> cases ry <;> simp_all [scalV]
    subst ey
    refine ⟨l, _, rfl, DPut.t (s2 _ _ (s _ _ e5)) (hid_le _ _ hc) (by show (kvOf L).length < _; rw [List.length_map]; exact hz), q _ _ ⟨M, ?_⟩⟩
    rw [putK_kv]
    exact (ok.mono (s.trans s2)).writeD hδ h1 e2 e3 (scal_put e4 sc)⟩
/-- a dict of one's own is from now on data -/
theorem ho_frz (i : Nat) {sts : List Stmt} {R : Ass} {Φ : VK} (h : δ[i]? = some (some (.dct L))) (hr : Ho X (Kn C (δ.set i (some (.dat (kdOf L))))) sts R Φ) : Ho X (Kn C δ) sts R Φ := (pss_frz hr).imp fun D σ H ⟨⟨M, ok⟩, q1, q2⟩ => by
  obtain ⟨v, hv, l, rfl, hl, h0, sc, hH⟩ := ok.val i _ h
  refine ⟨l, _, hH, True.intro, fun od => ⟨?_, q1, q2⟩⟩
  have hl0 : l ∉ C.M0 := fun z => ok.t0.ne z h0
  have sub : ∀ m ∈ M.filter (fun m => decide (m ≠ l)), m ∈ M ∧ m ≠ l := fun m hm => ⟨(List.mem_filter.mp hm).1, of_decide_eq_true (List.mem_filter.mp hm).2⟩
  have out : ∀ m ∈ M, m ≠ l → m ∈ M.filter (fun m => decide (m ≠ l)) := fun m hm ne => List.mem_filter.mpr ⟨hm, decide_eq_true ne⟩
  have sh : Same (hid M H) (hid (M.filter (fun m => decide (m ≠ l))) (upd H l (.frz od (.dT (kvOf L))))) := fun b o q => by
    obtain ⟨h1, h2⟩ := hid_of q
    have ne : b ≠ l := fun z => h1 (by rw [z]; exact hl)
    rw [hid_at fun z => h1 (sub b z).1, upd_ne ne]
    exact h2
  refine ⟨M.filter (fun m => decide (m ≠ l)), fun a o h1 h2 => ?_, ok.t0, ok.b0, fun m hm => out m (ok.sub m hm) (fun e => hl0 (by rw [← e]; exact hm)), fun m hm => ?_, fun p hp => p.up sh (ok.pin p hp), by rw [List.length_set]; exact ok.len, fun j e q => ?_, fun j k u u' w h1 h2 h3 h4 h5 h6 => ?_⟩
  · rw [upd_ne (fun z => by rw [z, h0] at h2; cases h2)]
    exact ok.fr a o h1 h2
  · rw [upd_ne (sub m hm).2]
    exact ok.trk m (sub m hm).1
  · rcases get_set_eq q with ⟨e1, e2, _⟩ | ⟨e1, e2⟩
    · cases e2
      subst e1
      refine ⟨.ref l, hv, .dic L sc (o := od) ?_⟩
      rw [hid_at (fun z => (sub _ z).2 rfl), upd_same]
    · obtain ⟨w, h1, h2⟩ := ok.val j e e2
      refine ⟨w, h1, ?_⟩
      have ne : isOwn e = true → w ≠ .ref l := fun ho z => e1 (ok.apart j i e (.dct L) w e2 h ho rfl h1 (by rw [z]; exact hv))
      cases e with
      | dat d => exact Rp.mono sh h2
      | own ds' =>
        obtain ⟨l', xs', rfl, q2, q3, q4, q5⟩ := h2
        have nl : l' ≠ l := fun z => ne rfl (by rw [z])
        exact ⟨l', xs', rfl, out _ q2 nl, q3, by rw [upd_ne nl]; exact q4, q5.mono sh⟩
      | tbl ks0 ds' =>
        obtain ⟨l', xs', rfl, q2, q3, q4, q5⟩ := h2
        have nl : l' ≠ l := fun z => ne rfl (by rw [z])
        exact ⟨l', xs', rfl, out _ q2 nl, q3, by rw [upd_ne nl]; exact q4, q5.mono sh⟩
      | dct L' =>
        obtain ⟨l', rfl, q2, q3, q4, q5⟩ := h2
        have nl : l' ≠ l := fun z => ne rfl (by rw [z])
        exact ⟨l', rfl, out _ q2 nl, q3, q4, by rw [upd_ne nl]; exact q5⟩
      | box n =>
        obtain ⟨l', rfl, q2, q3, g, s, c, q4, q5⟩ := h2
        have nl : l' ≠ l := fun z => ne rfl (by rw [z])
        exact ⟨l', rfl, out _ q2 nl, q3, g, s, c, by rw [upd_ne nl]; exact q4, q5⟩
      | scr ns =>
        obtain ⟨l', q1, q2⟩ := h2
        exact ⟨l', q1, Same.seq sh q2⟩
  · rcases get_set_eq h1 with ⟨_, e2, _⟩ | ⟨e1, e2⟩
    · cases e2; cases h3
    · rcases get_set_eq h2 with ⟨_, f2, _⟩ | ⟨f1, f2⟩
      · cases f2; cases h4
      · exact ok.apart j k u u' w e2 f2 h3 h4 h5 h6

/-! ### walked -/
theorem at_pin {M : List Addr} {H : Hp} {l : Addr} {o : HO} (h : Pins M H [pinA l o]) : hid M H l = some o := h (pinA l o) (List.mem_singleton.mpr rfl)
theorem kv_at {i : Nat} {p : List Str × V} (h : L[i]? = some p) : (kvOf L)[i]? = some (kIn p.1, p.2) := by
  show (L.map _)[i]? = _
  rw [List.getElem?_map, h]
  rfl
theorem yld_keys {st : Bool} {M : List Addr} {H : Hp} {l : Addr} {o : Obj} (hz : L.length ≤ sizeLine) (h : hid M H l = some (.frz o (.dT (kvOf L)))) : Yld st M (Itkt l o (kvOf L)) (L.map fun p => eK p.1) H := by
  refine ⟨by rw [List.length_map]; exact hz, [pinA l (.frz o (.dT (kvOf L)))], fun p hp => by rw [List.mem_singleton.mp hp]; exact h, fun M' i H' hp _ t => ?_⟩
  have hl := hid_le _ _ (at_pin hp)
  have len : (L.map fun p => (p.1.map (Sum.inr : Str → Key), p.2)).length = L.length := List.length_map _
  refine ⟨fun d hd => ?_, fun e => ⟨hl, Nat.le_of_eq (by rw [e, List.length_map, List.length_map])⟩⟩
  rw [List.getElem?_map] at hd
  obtain ⟨p, hp1, rfl⟩ := Option.map_eq_some_iff.mp hd
  refine ⟨⟨hl, by rw [len]; exact (List.getElem?_eq_some_iff.mp hp1).1⟩, fun x H2 hy => ?_⟩
  obtain ⟨rfl, k, v, q, h1, rfl, h3⟩ := hy
  rw [kv_at hp1] at h1
  cases h1
  rw [eK_kV] at h3
  exact ⟨Same.refl _, .tup (by rw [hid_at (t.outT h3)]; exact h3) (Rps.all (fun x => .str x) _)⟩
theorem yld_pairs {st : Bool} {M : List Addr} {H : Hp} {l : Addr} {o : Obj} (sc : Scal L) (hz : L.length ≤ sizeLine) (h : hid M H l = some (.frz o (.dT (kvOf L)))) : Yld st M (ItP l o (kvOf L)) (L.map fun p => .tuple [eK p.1, vD p.2]) H := by
  refine ⟨by rw [List.length_map]; exact hz, [pinA l (.frz o (.dT (kvOf L)))], fun p hp => by rw [List.mem_singleton.mp hp]; exact h, fun M' i H' hp _ t => ?_⟩
  have hl := hid_le _ _ (at_pin hp)
  have len : (L.map fun p => (p.1.map (Sum.inr : Str → Key), p.2)).length = L.length := List.length_map _
  refine ⟨fun d hd => ?_, fun e => ⟨hl, Nat.le_of_eq (by rw [e, List.length_map, List.length_map])⟩⟩
  rw [List.getElem?_map] at hd
  obtain ⟨p, hp1, rfl⟩ := Option.map_eq_some_iff.mp hd
  refine ⟨⟨hl, by rw [len]; exact (List.getElem?_eq_some_iff.mp hp1).1⟩, fun x H2 hy => ?_⟩
  obtain ⟨T, k, v, q, h1, h3, rfl, h4, rfl⟩ := hy
  rw [kv_at hp1] at h1
  cases h1
  rw [eK_kV] at h3
  refine ⟨same_new h4, rp_newT t h4 (.cons (.tup (by rw [hid_at (t.outT h3)]; exact h3) (Rps.all (fun x => .str x) _)) (.cons (rp_scal (sc p (List.mem_of_getElem? hp1))) .nil))⟩
/-- for k in d -/
theorem ei_keys {st : Bool} (h : Ev X C δ e (kdOf L)) (sc : Scal L) (hz : L.length ≤ sizeLine) : EvI st X C δ tg e (L.map fun p => eK p.1) :=
  (PI.small (pi_keys h)).imp fun σ H R ⟨M, ok, q⟩ => ⟨M, ok, fun v H1 sm s r => by
    obtain ⟨a, o, rfl, ha⟩ := rp_dic sc r
    exact ⟨a, o, rfl, .inr ⟨kvOf L, hid_le _ _ ha, fun sm2 => q _ H1 sm2 s (yld_keys hz ha)⟩⟩⟩
/-- for k, v in d.items() -/
theorem ei_pairs {st : Bool} {apos cpos tpos : Pos} {elts : List Expr} {kk : Nat} (h : Ev X C δ e (kdOf L)) (sc : Scal L) (hz : L.length ≤ sizeLine) (hbase : attributeBase e "items" X.env (eval e X.env) = eval e X.env := by rfl) (hline : (apos.endLine == cpos.line) = true := by rfl) :
    EvI st X C δ (.Tuple elts kk tpos) (.Call (.Attribute e "items" apos) [] [] cpos) (L.map fun p => .tuple [eK p.1, vD p.2]) :=
  (PI.small (pi_pairs h hbase hline)).imp fun σ H R ⟨M, ok, q⟩ => ⟨M, ok, fun v H1 sm s r => by
    obtain ⟨a, o, rfl, ha⟩ := rp_dic sc r
    exact ⟨a, o, kvOf L, rfl, hid_le _ _ ha, fun sm2 => q _ H1 sm2 s (yld_pairs sc hz ha)⟩⟩
end
end Kl
/-! KlDc4: {k: v for x in xs} by data. -/
namespace Kl
open PySem PySem.Spec PyProof.Rows L2
section
variable {X : Cx} {C : Cfg} {δ : Dl} {pos : Pos}
theorem dc_read {α : Type} {xs : List α} {en : α → PyData} {key : α → List Str} {val : α → V} (nd : (xs.map key).Nodup) (sc : ∀ x ∈ xs, scalV (val x) = true) {δx : α → Dl} {is vs : List Nat} (his : ∀ i ∈ is, i ∈ vs) {M : List Addr} {σ : L2.St} {H : Hp} {Q : VK} (ok : OkM C M δ σ H)
    (q : ∀ l H', Same H H' → H l = none → H' l = some (.dT (kvOf (xs.map fun x => (key x, val x)))) → Q (.ref l) H') :
    tDct (tDi true C δ (xs.map en)) (fun v σ H Q => ∃ x : { x : α // x ∈ xs }, tDg C (wipeD δ vs) (en x.1) (δx x.1) is v σ H Q) (fun σ H Q => ∃ x : { x : α // x ∈ xs }, tD C (δx x.1) (eK (key x.1)) σ H Q)
      (fun σ H Q => ∃ x : { x : α // x ∈ xs }, tD C (δx x.1) (vD (val x.1)) σ H Q) vs σ H Q := by
  refine ⟨M, ok, fun J H1 sm1 s1 hy D hD => ?_⟩
  obtain ⟨hz, ps, hps, hy⟩ := hy
  have hDM : D ∉ M := (ok.mono s1).trk.out hD
  rw [List.length_map] at hz
  refine ⟨fun i m H' => m = xs.length - i ∧ i ≤ xs.length ∧ Same H1 H' ∧ H' D = some (.dT (kvOf ((xs.take i).map fun x => (key x, val x)))), ⟨xs.length, by simp, Nat.zero_le _, same_new hD, upd_same⟩, ?_⟩
  rintro i m H2 ⟨rfl, hi, s2, hacc⟩
  have sh : Same (hid M H1) (hid (D :: M) H2) := fun b o q => by
    obtain ⟨h1, h2⟩ := hid_of q
    rw [hid_at (by simp only [List.mem_cons, not_or]; exact ⟨ne_of_none h2 hD, h1⟩)]
    exact s2 _ _ h2
  have okM2 : OkM C (D :: M) δ σ H2 := one_more (ok.mono s1) s2 hD hacc rfl
  obtain ⟨go, stop⟩ := hy (D :: M) i H2 (fun p hp => p.up sh (hps p hp)) (fun _ => ⟨s2, sh⟩) okM2.trk
  by_cases hlt : i < xs.length
  · obtain ⟨x, hx⟩ : ∃ x, xs[i]? = some x := ⟨_, List.getElem?_eq_getElem hlt⟩
    have hmem : x ∈ xs := List.mem_of_getElem? hx
    obtain ⟨g1, g2⟩ := go (en x) (by rw [List.getElem?_map, hx]; rfl)
    refine .inr ⟨g1, fun H' => Same H1 H' ∧ H' D = some (.dT (kvOf ((xs.take (i + 1)).map fun x => (key x, val x)))), fun H' hN => ⟨xs.length - (i + 1), by omega, rfl, hlt, hN⟩, fun v H3 hv => ?_⟩
    obtain ⟨s3, rx⟩ := g2 v H3 hv
    refine ⟨⟨x, hmem⟩, D :: M, (okM2.mono s3).wipe vs, rx, fun σ2 o2 ok2 => ⟨(wipe_onl o2 his).trans (wipe_onl (is := vs) ⟨wipe_length _ _, fun j hj => wipe_out hj⟩ fun i h => h), ⟨x, hmem⟩, D :: M, ok2, fun y H4 sm4 s4 ry => ⟨⟨x, hmem⟩, D :: M, ok2.mono s4, fun z H5 sm5 s5 rz => ?_⟩⟩⟩
    obtain ⟨b, rfl, hb⟩ := rp_key ry
    have ez : z = val x := by
      have s := sc x hmem
      revert rz s
      generalize val x = u
      intro rz s
      cases u <;> cases rz <;> simp_all [scalV]
    subst ez
    have hD5 : H5 D = some (.dT (kvOf ((xs.take i).map fun x => (key x, val x)))) := s5 _ _ (s4 _ _ (s3 _ _ hacc))
    refine ⟨_, kIn (key x), b, rfl, s5 _ _ (hid_le _ _ hb), hD5, ?_, fun c o qq => ?_, ?_⟩
    · show (List.map _ _).length < _
      rw [List.length_map, List.length_map, List.length_take]
      omega
    · rw [upd_ne (ne_of_none qq hD)]
      exact s5 _ _ (s4 _ _ (s3 _ _ (s2 _ _ qq)))
    · rw [upd_same, putK_kv, putK_new]
      · have et : xs.take (i + 1) = xs.take i ++ [x] := by rw [List.take_add_one, hx]; rfl
        rw [et, List.map_append]
        rfl
      · rw [List.map_map]
        intro hm
        obtain ⟨y, hy1, hy2⟩ := List.mem_map.mp hm
        obtain ⟨j, hj⟩ := List.mem_iff_getElem?.mp hy1
        rw [List.getElem?_take] at hj
        split at hj
        · rename_i lt
          have a1 : (xs.map key)[j]? = some (key y) := by rw [List.getElem?_map, hj]; rfl
          have a2 : (xs.map key)[i]? = some (key x) := by rw [List.getElem?_map, hx]; rfl
          have e : key y = key x := hy2
          rw [e] at a1
          have := (List.getElem?_inj (h₀ := (List.getElem?_eq_some_iff.mp a1).1) (h₁ := nd)).mp (a1.trans a2.symm)
          omega
        · cases hj
  · have e : i = xs.length := by omega
    subst e
    rw [List.take_length] at hacc
    exact .inl ⟨stop (by rw [List.length_map]), q D H2 (s1.trans s2) (Same.free s1 hD) hacc⟩
variable {α : Type} {xs : List α} {en : α → PyData} {key : α → List Str} {val : α → V} {kx vx iter : Expr} {scope : Scope} {x : Str} {pp : Pos}
/-- {k: v for x in iter}, frozen -/
theorem ev_dc (i : Nat) {n : Nat} (nodN : X.N.Nodup) (hr : Room n X.A) (hi : EvI true X C δ (.Name x pp) iter (xs.map en)) (nd : (xs.map key).Nodup) (sc : ∀ x ∈ xs, scalV (val x) = true)
    (hk : ∀ (s : Shared) (H : Hp) (Cc : Addr) (cl : List (Str × Addr)) (fp : List Addr) (v : α), v ∈ xs → Ev (X.blk s H scope (compEnvC scope cl Cc X.env) fp) C ((wipeD δ [i]).set i (some (.dat (en v)))) kx (eK (key v)))
    (hv : ∀ (s : Shared) (H : Hp) (Cc : Addr) (cl : List (Str × Addr)) (fp : List Addr) (v : α), v ∈ xs → Ev (X.blk s H scope (compEnvC scope cl Cc X.env) fp) C ((wipeD δ [i]).set i (some (.dat (en v)))) vx (vD (val v)))
    (hNi : X.N[i]? = some x := by rfl) (hx : ∀ s H Cc cl fp, Loc (X.blk s H scope (compEnvC scope cl Cc X.env) fp).env.scope x ∧ ((scope.names.lookup x == some .cell) = true ∨ (X.blk s H scope (compEnvC scope cl Cc X.env) fp).env.scope.names.lookup x = some .local) := by intro _ _ _ _ _; first | exact ⟨Or.inl rfl, Or.inr rfl⟩ | exact ⟨Or.inr rfl, Or.inl rfl⟩) (hc : X.calm = true := by rfl) (ok : BlkOk X.N X.env.scope scope [(x, i)] := by exact blkOk_by (by kernel_rfl)) (hs : ∀ x, foldedSetIterable iter X.env x = pure x := by intro _; rfl) :
    Ev X C δ (.DictComp kx vx [⟨.Name x pp, iter, [], 0⟩] scope pos) (kdOf (xs.map fun v => (key v, val v))) :=
  Ev.mk (pe_frz (pe_dct (own := [(x, i)]) hc nodN hr.units0 hi ok (fun s H Cc cl fp => PG.ex fun v : { v : α // v ∈ xs } => gnB (d := en v.1) nodN hNi (hx s H Cc cl fp)) (fun s H Cc cl fp => PE.ex fun v : { v : α // v ∈ xs } => hk s H Cc cl fp v.1 v.2) (fun s H Cc cl fp => PE.ex fun v : { v : α // v ∈ xs } => hv s H Cc cl fp v.1 v.2) hs))
    fun M σ H Q okm q => dc_read (is := [i]) (vs := [i]) (δx := fun v => (wipeD δ [i]).set i (some (.dat (en v)))) nd sc (fun _ h => h) okm fun l H' s nl hl => ⟨l, _, rfl, hl, True.intro, fun od sm => q _ _ sm (fun b o z => by rw [upd_ne (ne_of_none z nl)]; exact s _ _ z) (.dic _ (fun p hp => by
      obtain ⟨y, hy, rfl⟩ := List.mem_map.mp hp
      exact sc y hy) (by rw [hid_at (okm.trk.out nl), upd_same]))⟩
end
end Kl
/-! KlLc2: [f x y for x in xs if p x for y in ys x]. -/
namespace Kl
open PySem PySem.Spec PyProof.Rows L2
def noOwn (δ : Dl) : Bool := δ.all fun o => match o with
  | some e => !isOwn e
  | none => true
theorem _root_.L2.PI.ex {X : Cx} {tg e : Expr} {α : Sort _} {t : α → TI} (h : ∀ x, PI X tg e (t x)) : PI X tg e (fun σ H R => ∃ x, t x σ H R) := ⟨fun pins s σ H R I ⟨x, q⟩ => (h x).run pins s σ H R I q⟩
section
variable {X : Cx} {C : Cfg} {δ : Dl} {M : List Addr} {σ : L2.St} {H : Hp}
theorem noOwn_at {j : Nat} {u : Ent} (h : noOwn δ = true) (e : δ[j]? = some (some u)) : isOwn u = false := by
  have z := List.all_eq_true.mp h _ (List.mem_of_getElem? e)
  simpa using z
theorem OkM.poke {D : Addr} {o : HO} (ok : OkM C M δ σ H) (hD : D ∈ M) (h0 : C.H0 D = none) (no : noOwn δ = true) (ho : noTup o = true) : OkM C M δ σ (upd H D o) := by
  have sh : hid M (upd H D o) = hid M H := hid_in hD
  refine ⟨fun a u h1 h2 => ?_, ok.t0, ok.b0, ok.sub, fun m hm => ?_, fun p hp => by rw [sh]; exact ok.pin p hp, ok.len, fun j e q => ?_, ok.apart⟩
  · rw [upd_ne (fun z => by rw [z, h0] at h2; cases h2)]
    exact ok.fr a u h1 h2
  · by_cases e : m = D
    · rw [e, upd_same]; exact ⟨_, rfl, ho⟩
    · rw [upd_ne e]; exact ok.trk m hm
  · obtain ⟨w, h1, h2⟩ := ok.val j e q
    refine ⟨w, h1, ?_⟩
    have n := noOwn_at no q
    cases e with
    | dat d => exact (by rw [sh]; exact h2 : Rp (hid M (upd H D o)) w d)
    | scr ns =>
      obtain ⟨l, q1, q2⟩ := h2
      exact ⟨l, q1, by rw [sh]; exact q2⟩
    | own ds => cases n
    | tbl ks ds => cases n
    | dct L => cases n
    | box m => cases n
variable {α β : Type} {xs : List α} {en : α → PyData} {pr : α → Bool} {ys : α → List β} {em : β → PyData} {f : α → β → PyData} {δx : α → Dl} {δy : α → β → Dl} {is js : List Nat}
abbrev rowsF (xs : List α) (pr : α → Bool) (ys : α → List β) (f : α → β → PyData) : List PyData := (xs.filter pr).flatMap fun x => (ys x).map (f x)
theorem rowsF_next {i : Nat} {x : α} (h : xs[i]? = some x) : rowsF (xs.take (i + 1)) pr ys f = rowsF (xs.take i) pr ys f ++ (if pr x = true then (ys x).map (f x) else []) := by
  have e : xs.take (i + 1) = xs.take i ++ [x] := by rw [List.take_add_one, h]; rfl
  unfold rowsF
  rw [e, List.filter_append, List.flatMap_append]
  cases hp : pr x <;> simp [hp]
theorem rowsF_le (i : Nat) : (rowsF (xs.take i) pr ys f).length ≤ (rowsF xs pr ys f).length := by
  have e : rowsF xs pr ys f = rowsF (xs.take i) pr ys f ++ rowsF (xs.drop i) pr ys f := by
    unfold rowsF
    rw [← List.flatMap_append, ← List.filter_append, List.take_append_drop]
  rw [e, List.length_append]
  exact Nat.le_add_right _ _
theorem lc2_read {vs vs1 : List Nat} (his : ∀ i ∈ is, i ∈ vs) (hjs : ∀ i ∈ js, i ∈ vs1) (hv1 : ∀ x, wipeD (δx x) vs1 = δx x) (no : ∀ x, noOwn (δx x) = true) (noy : ∀ x y, noOwn (δy x y) = true) {Q : VK} (ok : OkM C M δ σ H)
    (q : ∀ l zs H', Same H H' → H l = none → H' l = some (.lst zs) → Rps (hid (l :: M) H') zs (rowsF xs pr ys f) → Q (.ref l) H') (big : (rowsF xs pr ys f).length ≤ sizeLine) :
    tLc2 (tDi true C δ (xs.map en)) (fun v σ H Q => ∃ x : { x : α // x ∈ xs }, tDg C (wipeD δ vs) (en x.1) (δx x.1) is v σ H Q) (fun σ H Q => ∃ x : { x : α // x ∈ xs }, tDt C (δx x.1) (pr x.1) σ H Q)
      (fun σ H R => ∃ x : { x : α // x ∈ xs }, tDi false C (δx x.1) ((ys x.1).map em) σ H R) (fun v σ H Q => ∃ z : { z : α × β // z.1 ∈ xs ∧ z.2 ∈ ys z.1 }, tDg C (δx z.1.1) (em z.1.2) (δy z.1.1 z.1.2) js v σ H Q) (fun σ H Q => Q true H)
      (fun σ H Q => ∃ z : { z : α × β // z.1 ∈ xs ∧ z.2 ∈ ys z.1 }, tD C (δy z.1.1 z.1.2) (f z.1.1 z.1.2) σ H Q) vs vs1 σ H Q := by
  refine ⟨M, ok, fun J H1 sm1 s1 hy D hD => ?_⟩
  obtain ⟨hz, ps, hps, hy⟩ := hy
  have h0 : C.H0 D = none := (ok.mono s1).new0 hD ((ok.mono s1).outB hD)
  rw [List.length_map] at hz
  refine ⟨fun i m H' => m = xs.length - i ∧ i ≤ xs.length ∧ Same H1 H' ∧ ∃ acc, H' D = some (.lst acc) ∧ Rps (hid (D :: M) H') acc (rowsF (xs.take i) pr ys f), ⟨xs.length, by simp, Nat.zero_le _, same_new hD, [], upd_same, .nil⟩, ?_⟩
  rintro i m H2 ⟨rfl, hi, s2, acc, hacc, rr⟩
  have sh : Same (hid M H1) (hid (D :: M) H2) := fun b o q => by
    obtain ⟨h1, h2⟩ := hid_of q
    rw [hid_at (by simp only [List.mem_cons, not_or]; exact ⟨ne_of_none h2 hD, h1⟩)]
    exact s2 _ _ h2
  have okM2 : OkM C (D :: M) δ σ H2 := one_more (ok.mono s1) s2 hD hacc rfl
  obtain ⟨go, stop⟩ := hy (D :: M) i H2 (fun p hp => p.up sh (hps p hp)) (fun _ => ⟨s2, sh⟩) okM2.trk
  by_cases hlt : i < xs.length
  · obtain ⟨x, hx⟩ : ∃ x, xs[i]? = some x := ⟨_, List.getElem?_eq_getElem hlt⟩
    have hmem : x ∈ xs := List.mem_of_getElem? hx
    obtain ⟨g1, g2⟩ := go (en x) (by rw [List.getElem?_map, hx]; rfl)
    refine .inr ⟨g1, fun H' => Same H1 H' ∧ ∃ acc, H' D = some (.lst acc) ∧ Rps (hid (D :: M) H') acc (rowsF (xs.take (i + 1)) pr ys f), fun H' hN => ⟨xs.length - (i + 1), by omega, rfl, hlt, hN⟩, fun v H3 hv => ?_⟩
    obtain ⟨s3, rx⟩ := g2 v H3 hv
    refine ⟨⟨x, hmem⟩, D :: M, (okM2.mono s3).wipe vs, rx, fun σ2 o2 ok2 => ⟨(wipe_onl o2 his).trans (wipe_onl (is := vs) ⟨wipe_length _ _, fun j hj => wipe_out hj⟩ fun i h => h), ⟨x, hmem⟩, D :: M, ok2, fun H4 sm4 s4 => ?_⟩⟩
    have hacc4 : H4 D = some (.lst acc) := s4 _ _ (s3 _ _ hacc)
    have rr4 := rr.mono (hid_same (M := D :: M) (s3.trans s4))
    have s14 : Same H1 H4 := (s2.trans s3).trans s4
    have next := rowsF_next (pr := pr) (ys := ys) (f := f) hx
    cases hp : pr x with
    | false =>
      refine iteF ⟨s14, acc, hacc4, ?_⟩
      rw [next, hp]
      simpa using rr4
    | true =>
      rw [hp, if_pos rfl] at next
      refine iteT ⟨⟨x, hmem⟩, D :: M, ok2.mono s4, fun J1 H5 sm5 s5 hy1 => ?_⟩
      obtain ⟨hz1, ps1, hps1, hy1⟩ := hy1
      rw [List.length_map] at hz1
      refine ⟨fun j k H' => k = (ys x).length - j ∧ j ≤ (ys x).length ∧ Same H1 H' ∧ OkM C (D :: M) (δx x) σ2 H' ∧ Same (hid (D :: M) H5) (hid (D :: M) H') ∧ ∃ acc, H' D = some (.lst acc) ∧ Rps (hid (D :: M) H') acc (rowsF (xs.take i) pr ys f ++ ((ys x).take j).map (f x)),
        ⟨(ys x).length, by simp, Nat.zero_le _, s14.trans s5, (ok2.mono s4).mono s5, fun _ _ h => h, acc, s5 _ _ hacc4, by simpa using rr4.mono (hid_same s5)⟩, ?_⟩
      rintro j k H6 ⟨rfl, hj, s6, ok6, sh6, acc6, hacc6, rr6⟩
      obtain ⟨go1, stop1⟩ := hy1 (D :: M) j H6 (fun p hp => p.up sh6 (hps1 p hp)) (fun z => nomatch z) ok6.trk
      by_cases hlt1 : j < (ys x).length
      · obtain ⟨y, hyj⟩ : ∃ y, (ys x)[j]? = some y := ⟨_, List.getElem?_eq_getElem hlt1⟩
        have hmy : y ∈ ys x := List.mem_of_getElem? hyj
        obtain ⟨g3, g4⟩ := go1 (em y) (by rw [List.getElem?_map, hyj]; rfl)
        refine .inr ⟨g3, fun H' => Same H1 H' ∧ OkM C (D :: M) (δx x) σ2 H' ∧ Same (hid (D :: M) H5) (hid (D :: M) H') ∧ ∃ acc, H' D = some (.lst acc) ∧ Rps (hid (D :: M) H') acc (rowsF (xs.take i) pr ys f ++ ((ys x).take (j + 1)).map (f x)), fun H' hN => ⟨(ys x).length - (j + 1), by omega, rfl, hlt1, hN⟩, fun w H7 hw => ?_⟩
        obtain ⟨s7, ry⟩ := g4 w H7 hw
        have okw := (ok6.mono s7).wipe vs1
        rw [hv1] at okw
        refine ⟨⟨(x, y), hmem, hmy⟩, D :: M, okw, ry, fun σ3 o3 ok3 => ⟨?_, iteT ⟨⟨(x, y), hmem, hmy⟩, D :: M, ok3, fun z H8 sm8 s8 rz => ?_⟩⟩⟩
        · exact (wipe_onl o3 hjs).trans (wipe_onl (is := vs1) ⟨wipe_length _ _, fun j hj => wipe_out hj⟩ fun i h => h)
        have s78 : Same H6 H8 := s7.trans s8
        have hacc8 : H8 D = some (.lst acc6) := s78 _ _ hacc6
        have et : (ys x).take (j + 1) = (ys x).take j ++ [y] := by rw [List.take_add_one, hyj]; rfl
        refine ⟨acc6, hacc8, ?_, fun b o qq => ?_, (ok6.mono s78).poke List.mem_cons_self h0 (no x) rfl, ?_, acc6 ++ [z], upd_same, ?_⟩
        · have l1 := rr6.length
          have l2 := rowsF_le (xs := xs) (pr := pr) (ys := ys) (f := f) (i + 1)
          rw [next, List.length_append, List.length_map] at l2
          rw [List.length_append, List.length_map, List.length_take] at l1
          omega
        · rw [upd_ne (ne_of_none qq hD)]
          exact s78 _ _ (s6 _ _ qq)
        · rw [hid_in List.mem_cons_self]
          exact sh6.trans (hid_same s78)
        · rw [hid_in List.mem_cons_self, et, List.map_append, ← List.append_assoc]
          exact (rr6.mono (hid_same s78)).append (.cons rz .nil)
      · have e : j = (ys x).length := by omega
        subst e
        rw [List.take_length] at rr6
        exact .inl ⟨stop1 (by rw [List.length_map]), s6, acc6, hacc6, by rw [next]; exact rr6⟩
  · have e : i = xs.length := by omega
    subst e
    rw [List.take_length] at rr
    exact .inl ⟨stop (by rw [List.length_map]), q D acc H2 (s1.trans s2) (Same.free s1 hD) hacc rr⟩
/-- [f x y for x in xs if p x for y in ys x] -/
theorem ef_lc2 {elt tg iter cnd tg1 iter1 : Expr} {scope : Scope} {pos : Pos} (own : List (Str × Nat)) (vs1 : List Nat) (hc : X.calm = true) (hN : X.N.Nodup) (hi : EvI true X C δ tg iter (xs.map en)) (ok : BlkOk X.N X.env.scope scope own) (his : ∀ i ∈ is, i ∈ own.map (·.2)) (hjs : ∀ i ∈ js, i ∈ vs1) (hvv : ∀ i ∈ vs1, i ∈ own.map (·.2)) (hv1 : ∀ x, wipeD (δx x) vs1 = δx x) (no : ∀ x, noOwn (δx x) = true) (noy : ∀ x y, noOwn (δy x y) = true) (big : (rowsF xs pr ys f).length ≤ sizeLine)
    (hg : ∀ (s : Shared) (H : Hp) (Cc : Addr) (cl : List (Str × Addr)) (fp : List Addr) (x : α), EvG (X.blk s H scope (compEnvC scope cl Cc X.env) fp) C (wipeD δ (own.map (·.2))) tg (en x) (δx x) is)
    (ht : ∀ (s : Shared) (H : Hp) (Cc : Addr) (cl : List (Str × Addr)) (fp : List Addr) (x : α), x ∈ xs → EvT (X.blk s H scope (compEnvC scope cl Cc X.env) fp) C (δx x) cnd (pr x))
    (hi1 : ∀ (s : Shared) (H : Hp) (Cc : Addr) (cl : List (Str × Addr)) (fp : List Addr) (x : α), x ∈ xs → EvI false (X.blk s H scope (compEnvC scope cl Cc X.env) fp) C (δx x) tg1 iter1 ((ys x).map em))
    (hg1 : ∀ (s : Shared) (H : Hp) (Cc : Addr) (cl : List (Str × Addr)) (fp : List Addr) (x : α) (y : β), EvG (X.blk s H scope (compEnvC scope cl Cc X.env) fp) C (δx x) tg1 (em y) (δy x y) js)
    (he : ∀ (s : Shared) (H : Hp) (Cc : Addr) (cl : List (Str × Addr)) (fp : List Addr) (x : α) (y : β), x ∈ xs → y ∈ ys x → Ev (X.blk s H scope (compEnvC scope cl Cc X.env) fp) C (δy x y) elt (f x y))
    (hs : ∀ x, foldedSetIterable iter X.env x = pure x := by intro _; rfl) (hs1 : ∀ env x, foldedSetIterable iter1 env x = pure x := by intro _ _; rfl) : EvF X C δ (.ListComp elt [⟨tg, iter, [cnd], 0⟩, ⟨tg1, iter1, [], 0⟩] scope pos) (rowsF xs pr ys f) :=
  EvF.mk (pe_lc2 (vs1 := vs1) hc hN hi ok hvv (fun s H Cc cl fp => PG.ex fun x : { x : α // x ∈ xs } => hg s H Cc cl fp x.1) (fun s H Cc cl fp => PTs.ex fun x : { x : α // x ∈ xs } => pts1 (ht s H Cc cl fp x.1 x.2)) (fun s H Cc cl fp => PI.ex fun x : { x : α // x ∈ xs } => hi1 s H Cc cl fp x.1 x.2)
    (fun s H Cc cl fp => PG.ex fun z : { z : α × β // z.1 ∈ xs ∧ z.2 ∈ ys z.1 } => hg1 s H Cc cl fp z.1.1 z.1.2) (fun s H Cc cl fp => ⟨fun pins s σ H Q I q => wpAny_tests_nil ⟨H, I, q⟩⟩) (fun s H Cc cl fp => PE.ex fun z : { z : α × β // z.1 ∈ xs ∧ z.2 ∈ ys z.1 } => he s H Cc cl fp z.1.1 z.1.2 z.2.1 z.2.2) hs hs1)
    fun M σ H Q okm q => lc2_read his hjs hv1 no noy okm (fun l zs H' s nl hl r sm => q l zs H' sm s nl hl r) big
end
end Kl
/-! KlZip: zip of lists and tuples in any mix, enumerate of such. k: a tuple? -/
namespace Kl
open PySem PySem.Spec PyProof.Rows L2

def itIs (k : Bool) (h : Heap) (it a : Addr) (i : Nat) : Prop := match k with
  | true => h.IsTupleIter it a i
  | false => h.IsListIter it a i
def sqIs (k : Bool) (h : Heap) (a : Addr) (its : Array Value) : Prop := match k with
  | true => h.IsTuple a its
  | false => h.IsList a its
def SqK (k : Bool) (K : PySem.W.Frag) (H : Hp) (a : Addr) (xs : List V) : Prop := match k with
  | true => SqT K H a xs
  | false => SqL K H a xs
def itOb (k : Bool) (a : Addr) : Obj := match k with
  | true => { cls := .type "tuple_iterator", data := .fields #[.ref a, .int 0 0] }
  | false => { cls := .type "list_iterator", data := .fields #[.ref a, .int 0 0] }
section
variable {k k1 k2 : Bool} {prog : Program} {w : World} {A : Around} {h h' : Heap} {it a : Addr} {i : Nat} {its : Array Value}
theorem draws_k (hh : A.handled = none) (ne : a ≠ it) : Draws prog w A it [it, a] its.size (fun i v => its[i]? = some v) (fun i h => itIs k h it a i ∧ sqIs k h a its) := by
  cases k
  · exact Draws.list hh it a ne its
  · exact Draws.tuple hh it a ne its
theorem begins_k : Begins (.ref a) (itOb k a) fun h => sqIs k h a its := by
  cases k
  · exact begins_list a its
  · exact begins_tuple a its
theorem itIs_new (e : h.get? it = some (itOb k a)) : itIs k h it a 0 := by
  cases k
  · exact ⟨_, e, rfl, rfl⟩
  · exact ⟨_, e, rfl, rfl⟩
theorem itIs_keep (x : itIs k h it a i) (g : ∀ o, h.get? it = some o → h'.get? it = some o) : itIs k h' it a i := by
  cases k
  · exact Heap.IsListIter.at x g
  · exact Heap.IsTupleIter.at x g
theorem itIs_ob (x : itIs k h it a i) : ∃ o, h.get? it = some o ∧ ∀ v, o.data ≠ .cell v := by
  cases k
  · obtain ⟨o, e, _, d⟩ := x
    exact ⟨o, e, fun v z => by rw [d] at z; cases z⟩
  · obtain ⟨o, e, _, d⟩ := x
    exact ⟨o, e, fun v z => by rw [d] at z; cases z⟩
theorem inv_sq {X : Cx} {pins : List (Addr × Obj)} {σ : L2.St} {H : Hp} {s : Shared} {xs : List V} (I : Inv X pins σ H s) (q : SqK k X.K H a xs) : ∃ its : List Value, Vals xs its ∧ sqIs k s.heap a its.toArray ∧ a < s.heap.objs.size := by
  cases k
  · obtain ⟨its, r, p, _⟩ := I.list q
    exact ⟨its, r, p.isList, p.lt⟩
  · obtain ⟨its, r, p, _⟩ := I.tuple q
    obtain ⟨o, e, _⟩ := id p
    exact ⟨its, r, p, Heap.lt_size e⟩
theorem sq_inj {X : Cx} {pins : List (Addr × Obj)} {σ : L2.St} {H : Hp} {s : Shared} {xs ys : List V} (I : Inv X pins σ H s) (q : SqK k X.K H a xs) (q' : SqK k X.K H a ys) : xs = ys := by
  cases k
  · exact I.list_inj q q'
  · exact I.tuple_inj q q'
end
/-- pairs of a and b -/
def ItQ (k1 k2 : Bool) (K : PySem.W.Frag) (a b : Addr) : It where
  go i H := ∃ (xs ys : List V) (x y : V), SqK k1 K H a xs ∧ SqK k2 K H b ys ∧ xs[i]? = some x ∧ ys[i]? = some y
  yld i H v H' := ∃ T x y, v = .ref T ∧ H T = none ∧ H' = upd H T (.tup [x, y]) ∧ (∀ xs, SqK k1 K H a xs → xs[i]? = some x) ∧ ∀ ys, SqK k2 K H b ys → ys[i]? = some y
  stop i H := ∃ xs ys : List V, SqK k1 K H a xs ∧ SqK k2 K H b ys ∧ i ≤ xs.length ∧ i ≤ ys.length ∧ (i = xs.length ∨ i = ys.length)
theorem turnQ {P : Program} {w : World} {K : PySem.W.Frag} {elts : List Expr} {kk : Nat} {tpos : Pos} {k1 k2 : Bool} {a b z TI TO i1 i2 : Addr} (D : ZipApart z TI TO i1 i2 a b) :
    Turn P w K (.Tuple elts kk tpos) (ItQ k1 k2 K a b) [z, TI, TO, i1, i2] z (fun i h => IsZip h z TI TO .none ∧ IsTupOf2 h TI (.ref i1) (.ref i2) ∧ (∃ x y, IsTupOf2 h TO x y) ∧ itIs k1 h i1 a i ∧ itIs k2 h i2 b i) := by
  have fp : ∀ {c : Addr}, c ∈ [z, TI, TO, i1, i2] → c = z ∨ c = TI ∨ c = TO ∨ c = i1 ∨ c = i2 := fun {c} h => by simpa using h
  have two : ∀ {c p q : Addr}, c ≠ p → c ≠ q → c ∉ [p, q] := fun {c p q} h1 h2 => by simp only [List.mem_cons, List.not_mem_nil, or_false, not_or]; exact ⟨h1, h2⟩
  have sep : ZipSep2 z TI TO i1 i2 [i1, a] [i2, b] := ⟨D.TIz, D.TOz, D.TITO, D.TIi1, List.mem_cons_self, two D.i1z.symm D.l1z.symm, two D.TOi1 D.l1TO.symm, D.TIi2, List.mem_cons_self, two D.i2z.symm D.l2z.symm, two D.TOi2 D.l2TO.symm, two D.i12 D.l2i1.symm, two D.i12.symm D.l1i2.symm⟩
  refine ⟨List.mem_cons_self, fun i h ⟨hz, hI, ⟨x, y, hO⟩, h1, h2⟩ c hc => ?_, fun i h h' ⟨hz, hI, ⟨x, y, hO⟩, h1, h2⟩ k => ?_, ?_, ?_, fun A i s Q E st h => wpAny_pyIter_zip st.1 h⟩
  · rcases fp hc with e | e | e | e | e <;> rw [e]
    · exact ⟨_, hz, fun v q => nomatch q⟩
    · exact ⟨_, hI, fun v q => nomatch q⟩
    · exact ⟨_, hO, fun v q => nomatch q⟩
    · exact itIs_ob h1
    · exact itIs_ob h2
  · exact ⟨k _ (by simp) _ hz, k _ (by simp) _ hI, ⟨x, y, k _ (by simp) _ hO⟩, itIs_keep h1 fun o e => k _ (by simp) o e, itIs_keep h2 fun o e => k _ (by simp) o e⟩
  · rintro X rfl rfl rfl cm i pins s σ H E I hf ⟨hz, hI, ⟨x0, y0, hO⟩, h1, h2⟩ ⟨xs, ys, x, y, qx, qy, hx, hy⟩
    obtain ⟨us, rx, px, _⟩ := inv_sq I qx
    obtain ⟨vs, ry, py, _⟩ := inv_sq I qy
    obtain ⟨u, hu, ru⟩ := rx.get hx
    obtain ⟨v, hv, rv⟩ := ry.get hy
    have low : z < s.heap.objs.size := Heap.lt_size hz
    have hh : X.A.in1.handled = none := I.ok.hd cm
    have iu : i < us.toArray.size := by rw [List.size_toArray]; exact (List.getElem?_eq_some_iff.mp hu).1
    have iv : i < vs.toArray.size := by rw [List.size_toArray]; exact (List.getElem?_eq_some_iff.mp hv).1
    refine wpAny_pyNext_zipD2_item sep (draws_k (k := k1) hh D.l1i1) (draws_k (k := k2) hh D.l2i2) hz hI hO ⟨h1, px⟩ ⟨h2, py⟩ iu iv fun u' v' g tk eu ev z' O' s1 s2 tup sz keep => ?_
    have eu : us[i]? = some u' := by simpa using eu
    have ev : vs[i]? = some v' := by simpa using ev
    rw [hu] at eu
    rw [hv] at ev
    cases eu
    cases ev
    refine ⟨_, rfl, wpAny_letOwnedTupleGo_zip (s := { s with heap := g, toks := tk }) z' fun g2 z2 sb => ?_⟩
    have above : ∀ c ∈ [z, TI, TO, i1, i2], c < s.heap.objs.size := fun c hc => by
      rcases fp hc with e | e | e | e | e <;> rw [e]
      · exact low
      · exact Heap.lt_size hI
      · exact Heap.lt_size hO
      · obtain ⟨_, e, _⟩ := itIs_ob h1; exact Heap.lt_size e
      · obtain ⟨_, e, _⟩ := itIs_ob h2; exact Heap.lt_size e
    have tup2 := (sb.2 s.heap.objs.size (Nat.ne_of_gt low)).trans tup
    have new : ObjOk X.prog X.w (upd H s.heap.objs.size (.tup [x, y])) g2 s.heap.objs.size (.tup [x, y]) := ⟨by show 2 ≤ sizeLine; decide, [u, v], .cons ru (.cons rv .nil), ⟨_, tup2, rfl, _, rfl⟩⟩
    have I1 : Inv X pins σ (upd H s.heap.objs.size (.tup [x, y])) { s with heap := g2, toks := tk } :=
      I.turnedNew (t' := tk) (ch := [z, TI, TO, i1, i2]) (fun c o hc e => (sb.2 c fun q => hc (by simp [q])).trans (keep c o (fun q => hc (by simp [q])) (fun q => hc (by simp [q])) (fun q => hc (by simp [q])) (fun q => hc (by simp [q])) e)) hf (Nat.le_refl _) new
    refine ⟨.ref s.heap.objs.size, _, I1, rfl, ⟨_, x, y, rfl, I.hok.fresh (Nat.le_refl _), rfl, fun l hl => by rw [sq_inj I hl qx]; exact hx, fun l hl => by rw [sq_inj I hl qy]; exact hy⟩,
      ⟨z2, (sb.2 _ sep.TIz).trans (keep _ _ sep.TIz sep.TITO sep.TIi1 sep.TIi2 hI), ⟨u, v, (sb.2 _ sep.TOz).trans O'⟩, itIs_keep s1.1 fun o e => (sb.2 _ D.i1z).trans e, itIs_keep s2.1 fun o e => (sb.2 _ D.i2z).trans e⟩, fun c hc => ?_⟩
    rw [upd_ne (Nat.ne_of_lt (above c hc))]
    exact (hf c hc).1
  · rintro X rfl rfl rfl cm i pins s σ H E I hf ⟨hz, hI, ⟨x0, y0, hO⟩, h1, h2⟩ ⟨xs, ys, qx, qy, l1, l2, fin⟩
    obtain ⟨us, rx, px, _⟩ := inv_sq I qx
    obtain ⟨vs, ry, py, _⟩ := inv_sq I qy
    have hh : X.A.in1.handled = none := I.ok.hd cm
    have e1 : us.toArray.size = xs.length := by rw [List.size_toArray]; exact rx.length.symm
    have e2 : vs.toArray.size = ys.length := by rw [List.size_toArray]; exact ry.length.symm
    exact wpAny_pyNext_zipD2_end sep (draws_k (k := k1) hh D.l1i1) (draws_k (k := k2) hh D.l2i2) hz hI hO ⟨h1, px⟩ ⟨h2, py⟩ (by omega) (by omega) (by omega) fun g tk keep =>
      ⟨rfl, I.turnedL (t' := tk) (ch := [z, TI, TO, i1, i2]) (fun c o hc e => keep c o (fun q => hc (by simp [q])) (fun q => hc (by simp [q])) (fun q => hc (by simp [q])) (fun q => hc (by simp [q])) e) hf⟩
def iZipQ (k1 k2 : Bool) (K : PySem.W.Frag) (ta : TA) : TI := fun σ H R => ta σ H fun vs H1 => ∃ a b xs ys, vs = [.ref a, .ref b] ∧ SqK k1 K H1 a xs ∧ SqK k2 K H1 b ys ∧ R (ItQ k1 k2 K a b) H1
theorem pi_zipQ {X : Cx} {k1 k2 : Bool} {e e2 : Expr} {ta : TA} {p pos tpos : Pos} {elts : List Expr} {kk : Nat} (hg : Gl X "zip") (hm : X.mg "zip" = none) (ha : PA X [e, e2] ta)
    (hs : starEach [e, e2] X.env = (false, eval e X.env) :: starEach [e2] X.env := by rfl) (hpl : (backTo pos (starEach [e2] X.env)).any (·.1) = false := by rfl) :
    PI X (.Tuple elts kk tpos) (.Call (.Name "zip" p) [e, e2] [] pos) (iZipQ k1 k2 X.K ta) := by
  refine ⟨fun pins s σ H R I h => Call_ (ld_blt I hg hm PyProof.Rows.boot_zip (PyProof.Rows.callWith_type1 (thn (ha.run pos pins s σ H _ I h) fun us s1 ⟨vs, H1, I1, r1, a, b, xs, ys, ex, qx, qy, q⟩ => ?_) hs hpl))⟩
  subst ex
  obtain ⟨u, v, rfl, ru, rv⟩ : ∃ u v, us = [u, v] ∧ RelV (.ref a) u ∧ RelV (.ref b) v := by
    cases r1 with
    | cons r t =>
      cases t with
      | cons r' t => cases t; exact ⟨_, _, rfl, r, r'⟩
  cases ru
  cases rv
  obtain ⟨us, rx, px, la⟩ := inv_sq I1 qx
  obtain ⟨vs, ry, py, lb⟩ := inv_sq I1 qy
  refine zip_begins2 (begins_k (k := k1) (a := a)) (begins_k (k := k2) (a := b)) px py fun g hz hI hO h1 h2 sz keep => wpAny_pyIter_zip hz ⟨_, [s1.heap.objs.size + 4, s1.heap.objs.size + 2, s1.heap.objs.size + 3, s1.heap.objs.size, s1.heap.objs.size + 1], _, _, H1, rfl, I1.kept (t' := s1.toks) keep,
    turnQ (PySem.W.ktu_apart s1.heap.objs.size a b la lb), ⟨hz, hI, ⟨_, _, hO⟩, itIs_new h1, itIs_new h2⟩, fun c hc => ?_, q⟩
  have up : s1.heap.objs.size ≤ c := by
    have e : c = s1.heap.objs.size + 4 ∨ c = s1.heap.objs.size + 2 ∨ c = s1.heap.objs.size + 3 ∨ c = s1.heap.objs.size ∨ c = s1.heap.objs.size + 1 := by simpa using hc
    rcases e with e | e | e | e | e <;> rw [e]
    · exact Nat.le_add_right _ _
    · exact Nat.le_add_right _ _
    · exact Nat.le_add_right _ _
    · exact Nat.le_refl _
    · exact Nat.le_add_right _ _
  exact I1.fpOk up (I1.hok.fresh up)
end Kl
namespace Kl
open PySem PySem.Spec PyProof.Rows L2
def sqD (k : Bool) (ds : List PyData) : PyData := match k with
  | true => .tuple ds
  | false => .list ds
section
variable {X : Cx} {C : Cfg} {δ : Dl} {a b : Expr} {k1 k2 : Bool} {ds ds1 ds2 : List PyData} {p pos tpos : Pos} {elts : List Expr} {kk : Nat}
theorem sq_of {H : Hp} {v : V} {k : Bool} {K : PySem.W.Frag} {M : List Addr} (r : Rp (hid M H) v (sqD k ds)) : ∃ l xs, v = .ref l ∧ SqK k K H l xs ∧ Rps (hid M H) xs ds := by
  cases k
  · cases r with
    | @lst l xs _ h r => exact ⟨l, xs, rfl, SqL.of (hid_le _ _ h), r⟩
  · cases r with
    | @tup l xs _ h r => exact ⟨l, xs, rfl, SqT.of (hid_le _ _ h), r⟩
theorem yld_zip {st : Bool} {M : List Addr} {K : PySem.W.Frag} {H : Hp} {l m : Addr} (hz : ds1.length ≤ sizeLine) (h1 : Rp (hid M H) (.ref l) (sqD k1 ds1)) (h2 : Rp (hid M H) (.ref m) (sqD k2 ds2)) : Yld st M (ItQ k1 k2 K l m) ((ds1.zip ds2).map fun p => .tuple [p.1, p.2]) H := by
  refine ⟨by rw [List.length_map, List.length_zip]; exact Nat.le_trans (Nat.min_le_left _ _) hz, [pinD (.ref l) (sqD k1 ds1), pinD (.ref m) (sqD k2 ds2)], fun p hp => ?_, fun M' i H' hp _ t => ?_⟩
  · rcases List.mem_cons.mp hp with rfl | hp
    · exact h1
    · rw [List.mem_singleton.mp hp]; exact h2
  · have r1 : Rp (hid M' H') (.ref l) (sqD k1 ds1) := hp _ List.mem_cons_self
    have r2 : Rp (hid M' H') (.ref m) (sqD k2 ds2) := hp _ (List.mem_cons_of_mem _ List.mem_cons_self)
    obtain ⟨_, xs, e1, q1, rr1⟩ := sq_of (K := K) r1
    cases e1
    obtain ⟨_, ys, e2, q2, rr2⟩ := sq_of (K := K) r2
    cases e2
    refine ⟨fun d hd => ?_, fun e => ⟨xs, ys, q1, q2, ?_⟩⟩
    · rw [List.getElem?_map] at hd
      obtain ⟨⟨d1, d2⟩, hz2, rfl⟩ := Option.map_eq_some_iff.mp hd
      have hd := List.getElem?_zip_eq_some.mp hz2
      obtain ⟨v1, hv1, rv1⟩ := rr1.get hd.1
      obtain ⟨v2, hv2, rv2⟩ := rr2.get hd.2
      refine ⟨⟨xs, ys, v1, v2, q1, q2, hv1, hv2⟩, fun x H2 ⟨T, y1, y2, ex, hT, eH, f1, f2⟩ => ?_⟩
      have e1 := f1 xs q1
      have e2 := f2 ys q2
      rw [hv1] at e1
      rw [hv2] at e2
      cases e1
      cases e2
      subst ex eH
      exact ⟨same_new hT, rp_newT t hT (.cons rv1 (.cons rv2 .nil))⟩
    · rw [e, List.length_map, List.length_zip, rr1.length, rr2.length]
      omega
theorem small_sq {H : Hp} {l : Addr} {k : Bool} {M : List Addr} (sm : Small H) (r : Rp (hid M H) (.ref l) (sqD k ds)) : ds.length ≤ sizeLine := by
  cases k
  · cases r with
    | lst h r => rw [← r.length]; exact (sm _).1 _ (hid_le _ _ h)
  · cases r with
    | tup h r => rw [← r.length]; exact (sm _).2 _ (hid_le _ _ h)
theorem ei_zip {st : Bool} (k1 k2 : Bool) (hm : X.mg "zip" = none) (ha : Ev X C δ a (sqD k1 ds1)) (hb : Ev X C δ b (sqD k2 ds2)) (hg : Gl X "zip" := by rfl)
    (h1 : starEach [a, b] X.env = (false, eval a X.env) :: starEach [b] X.env := by rfl) (h2 : starEach [b] X.env = (false, eval b X.env) :: starEach [] X.env := by rfl) (hpl : (backTo pos (starEach [b] X.env)).any (·.1) = false := by rfl) :
    EvI st X C δ (.Tuple elts kk tpos) (.Call (.Name "zip" p) [a, b] [] pos) ((ds1.zip ds2).map fun p => .tuple [p.1, p.2]) :=
  (PI.small (pi_zipQ (k1 := k1) (k2 := k2) hg hm (pa_cons ha (pa_cons hb pa_nil h2) h1) h1 hpl)).imp fun σ H R ⟨M, ok, q⟩ => ⟨M, ok, fun v H1 sm s r1 => ⟨M, ok.mono s, fun w H2 sm2 s2 r2 => by
    have r1 := r1.mono (hid_same s2)
    obtain ⟨l, xs, rfl, q1, _⟩ := sq_of (K := X.K) r1
    obtain ⟨m, ys, rfl, q2, _⟩ := sq_of (K := X.K) r2
    exact ⟨l, m, xs, ys, rfl, q1, q2, fun sm3 => q _ H2 sm3 (s.trans s2) (yld_zip (small_sq sm2 r1) r1 r2)⟩⟩⟩
/-- enumerate(a list) -/
theorem yld_enum {st : Bool} {M : List Addr} {K : PySem.W.Frag} {H : Hp} {l : Addr} (hz : ds.length ≤ sizeLine) (h : Rp (hid M H) (.ref l) (.list ds)) : Yld st M (Ite K l) ((List.range ds.length).map fun i => .tuple [.int (i : Nat), ds.getD i .none]) H := by
  refine ⟨by rw [List.length_map, List.length_range]; exact hz, [pinD (.ref l) (.list ds)], fun p hp => by rw [List.mem_singleton.mp hp]; exact h, fun M' i H' hp _ t => ?_⟩
  have r : Rp (hid M' H') (.ref l) (.list ds) := hp _ (List.mem_singleton.mpr rfl)
  cases r with
  | @lst _ xs _ hl rr =>
    have q := SqL.of (K := K) (hid_le _ _ hl)
    refine ⟨fun d hd => ?_, fun e => ⟨xs, q, by rw [e, List.length_map, List.length_range, rr.length]; exact Nat.le_refl _⟩⟩
    rw [List.getElem?_map] at hd
    obtain ⟨j, hj, rfl⟩ := Option.map_eq_some_iff.mp hd
    obtain ⟨jl, e⟩ := List.getElem?_eq_some_iff.mp hj
    rw [List.getElem_range] at e
    subst e
    rw [List.length_range] at jl
    obtain ⟨v, hv, rv⟩ := rr.get (i := i) (d := ds.getD i .none) (by rw [List.getD_eq_getElem?_getD, List.getElem?_eq_getElem jl]; rfl)
    refine ⟨⟨xs, v, q, hv⟩, fun x H2 ⟨T, y, ex, hT, eH, f⟩ => ?_⟩
    have e := f xs q
    rw [hv] at e
    cases e
    subst ex eH
    exact ⟨same_new hT, rp_newT t hT (.cons (.int _) (.cons rv .nil))⟩
theorem ei_enum {st : Bool} (hm : X.mg "enumerate" = none) (ha : Ev X C δ a (.list ds)) (hg : Gl X "enumerate" := by rfl) (h1 : starEach [a] X.env = (false, eval a X.env) :: starEach [] X.env := by rfl) (h2 : starEach [a] X.env = [(false, eval a X.env)] := by rfl) :
    EvI st X C δ (.Tuple elts kk tpos) (.Call (.Name "enumerate" p) [a] [] pos) ((List.range ds.length).map fun i => .tuple [.int (i : Nat), ds.getD i .none]) :=
  (PI.small (pi_enum hg hm (pa_cons ha pa_nil h1) h2)).imp fun σ H R ⟨M, ok, q⟩ => ⟨M, ok, fun v H1 sm s r => by
    have r0 := r
    cases r with
    | @lst l xs _ h r => exact ⟨l, xs, rfl, SqL.of (hid_le _ _ h), fun sm2 => q _ H1 sm2 s (yld_enum (small_sq (k := false) sm r0) r0)⟩⟩
end
end Kl
/-! KlMir: the program's defs on typed data. -/
namespace Kl
open PySem PySem.Spec PyProof.Rows L2 PySem.W

abbrev Ln := Str × Str × Str × Int × Str
structure Net where
  ys : List (Str × Int)
  ls : List Ln
  cs : List (Str × Str)
abbrev Crew := List (Str × List Str)
def eY (y : Str × Int) : PyData := .tuple [.str y.1, .int y.2]
def eL (l : Ln) : PyData := .tuple [.str l.1, .str l.2.1, .str l.2.2.1, .int l.2.2.2.1, .str l.2.2.2.2]
def eC (c : Str × Str) : PyData := .tuple [.str c.1, .str c.2]
def eN (n : Net) : PyData := .tuple [.tuple (n.ys.map eY), .tuple (n.ls.map eL), .tuple (n.cs.map eC)]
def eH (p : Str × List Str) : PyData := .tuple [.str p.1, eK p.2]
def eCr (c : Crew) : PyData := .tuple (c.map eH)
def eLot (l : List Int) : PyData := .tuple (l.map .int)
def eTs (l : List (List Str)) : PyData := .tuple (l.map eK)
def eLs (l : List (List Str)) : PyData := .list (l.map eK)

def setT (l : List Str) : List Str := setS .str l
def setK (l : List (List Str)) : List (List Str) := setS eK l
def yards (n : Net) : List Str := n.ys.map fun y => y.1
def keyL (l : Ln) : Str := l.2.2.2.2
def keysOf (n : Net) : List Str := setT (n.ls.map keyL)
def allSubs (names : List Str) : List (List Str) := names.foldl (fun f x => f ++ f.map fun s => s ++ [x]) [[]]
def subs (names : List Str) : List (List Str) := srt eK (allSubs names)
def valOf (n : Net) (keys far : List Str) : Int :=
  ((n.ys.filter fun y => decide (y.1 ∈ far)).map fun y => y.2).sum + ((n.ls.filter fun l => decide (l.2.2.2.2 ∈ keys) && (decide (l.2.2.1 ∈ far) && !decide (l.2.1 ∈ far))).map fun l => l.2.2.2.1).sum
def partIn (n : Net) (lot : List Int) (far : List Str) : Int := (((n.cs.zip lot).filter fun p => decide (p.1.2 ∈ far)).map fun p => p.2).sum
def goesB (n : Net) (keys : List Str) (lot : List Int) : Bool := (subs (yards n)).all fun far => decide (partIn n lot far ≤ valOf n keys far)
def people (c : Crew) : List Str := c.map fun p => p.1
def heldBy (c : Crew) (g : List Str) : List Str := setT ((c.filter fun p => decide (p.1 ∈ g)).flatMap fun p => p.2)
def butOf (all g : List Str) : List Str := all.filter fun x => !decide (x ∈ g)
def sendsB (n : Net) (c : Crew) (lot : List Int) (g : List Str) : Bool := goesB n (heldBy c g) lot
def allIn (a b : List Str) : Bool := a.all fun x => decide (x ∈ b)
def leastsOf (gs : List (List Str)) : List (List Str) := srt eK (gs.filter fun own => !(gs.any fun far => !decide (far = own) && allIn far own))
def sendersL (n : Net) (c : Crew) (lot : List Int) : List (List Str) := leastsOf ((subs (people c)).filter fun g => sendsB n c lot g)
def stoppersL (n : Net) (c : Crew) (lot : List Int) : List (List Str) := leastsOf ((subs (people c)).filter fun g => !sendsB n c lot (butOf (people c) g))
def isApart (n : Net) (c : Crew) (lot : List Int) : Bool := (subs (people c)).any fun g => sendsB n c lot g && sendsB n c lot (butOf (people c) g)
def withOne (g : List Str) (p : Str) : List Str := setT (g ++ [p])
def timesD (n : Net) (c : Crew) (lot : List Int) (p : Str) : Nat := (((subs (people c)).filter fun g => !decide (p ∈ g)).filter fun g => sendsB n c lot (withOne g p) && !sendsB n c lot g).length
def idleL (n : Net) (c : Crew) (lot : List Int) : List Str := (people c).filter fun p => decide (timesD n c lot p = 0)
def eP (p : Nat × List Str) : PyData := .tuple [.int p.1, eK p.2]
def byLen (l : List (List Str)) : List (Nat × List Str) := srt eP (l.map fun o => (o.length, o))
def itsOf (n : Net) (c : Crew) (g : List Str) : List Str := (keysOf n).filter fun k => decide (k ∈ heldBy c (people c)) && (!decide (k ∈ heldBy c g) && decide (0 < g.length))
def wantedK (n : Net) (c : Crew) (lot : List Int) (g : List Str) : Option (List Str) := ((byLen (subs (itsOf n c g))).find? fun p => goesB n (setT (heldBy c g ++ p.2)) lot).map fun p => p.2
def leastsK (fam : List (List Str)) : List (List Str) := (setK fam).filter fun some => !((setK fam).filter (fun far => !decide (far = some))).any fun far => allIn far some
def othersOf (n : Net) (keys : List Str) : List Str := butOf (keysOf n) keys
def openersL (n : Net) (lot : List Int) : List (List Str) := leastsK ((subs (keysOf n)).filter fun k => goesB n k lot)
def barriersL (n : Net) (lot : List Int) : List (List Str) := leastsK (((subs (keysOf n)).filter fun k => !goesB n k lot).map (othersOf n))

/-! ### sublists -/
theorem foldl_subs : ∀ (names : List Str) (f : List (List Str)), (names.foldl (fun f x => f ++ f.map fun s => s ++ [x]) f).length = f.length * 2 ^ names.length
  | [], f => by simp
  | x :: r, f => by
    rw [List.foldl_cons, foldl_subs r, List.length_append, List.length_map, List.length_cons, Nat.pow_succ, Nat.mul_comm (2 ^ r.length) 2, ← Nat.mul_assoc, Nat.mul_two]
theorem len_allSubs (names : List Str) : (allSubs names).length = 2 ^ names.length := by
  have := foldl_subs names [[]]
  simpa [allSubs] using this
theorem len_subs (names : List Str) : (subs names).length = 2 ^ names.length := by
  unfold subs
  rw [len_srt, len_allSubs]
theorem mem_foldl : ∀ (names : List Str) (f : List (List Str)) (k : List Str), k ∈ names.foldl (fun f x => f ++ f.map fun s => s ++ [x]) f ↔ ∃ a ∈ f, ∃ b, b.Sublist names ∧ k = a ++ b
  | [], f, k => by
    simp only [List.foldl_nil, List.sublist_nil]
    exact ⟨fun h => ⟨k, h, [], rfl, by simp⟩, fun ⟨a, ha, b, hb, e⟩ => by rw [e, hb, List.append_nil]; exact ha⟩
  | x :: r, f, k => by
    rw [List.foldl_cons, mem_foldl r]
    constructor
    · rintro ⟨a, ha, b, hb, rfl⟩
      rcases List.mem_append.mp ha with ha | ha
      · exact ⟨a, ha, b, hb.cons _, rfl⟩
      · obtain ⟨c, hc, rfl⟩ := List.mem_map.mp ha
        exact ⟨c, hc, x :: b, hb.cons_cons _, by simp⟩
    · rintro ⟨a, ha, b, hb, rfl⟩
      cases hb with
      | cons _ hb => exact ⟨a, List.mem_append_left _ ha, b, hb, rfl⟩
      | @cons_cons b' _ _ hb => exact ⟨a ++ [x], List.mem_append_right _ (List.mem_map.mpr ⟨a, ha, rfl⟩), b', hb, by simp⟩
theorem mem_subs {names k : List Str} : k ∈ subs names ↔ k.Sublist names := by
  unfold subs allSubs
  rw [mem_srt, mem_foldl]
  simp
theorem nd_foldl : ∀ (names : List Str) (f : List (List Str)), names.Nodup → f.Nodup → (∀ a ∈ f, ∀ x ∈ a, x ∉ names) → (names.foldl (fun f x => f ++ f.map fun s => s ++ [x]) f).Nodup
  | [], f, _, h, _ => h
  | x :: r, f, hn, hf, hd => by
    obtain ⟨n1, n2⟩ := List.nodup_cons.mp hn
    rw [List.foldl_cons]
    refine nd_foldl r _ n2 ?_ fun a ha y hy => ?_
    · rw [List.nodup_append]
      refine ⟨hf, ?_, fun a ha b hb e => ?_⟩
      · exact hf.map (f := fun s : List Str => s ++ [x]) (fun a b e => by simpa using e)
      · obtain ⟨c, hc, rfl⟩ := List.mem_map.mp hb
        exact hd a ha x (by rw [e]; simp) List.mem_cons_self
    · rcases List.mem_append.mp ha with ha | ha
      · exact fun z => hd a ha y hy (List.mem_cons_of_mem _ z)
      · obtain ⟨c, hc, rfl⟩ := List.mem_map.mp ha
        rcases List.mem_append.mp hy with hy | hy
        · exact fun z => hd c hc y hy (List.mem_cons_of_mem _ z)
        · rw [List.mem_singleton.mp hy]; exact n1
theorem nd_subs {names : List Str} (h : names.Nodup) : (subs names).Nodup := by
  unfold subs allSubs
  rw [srt_nd]
  exact nd_foldl names [[]] h (by simp) (by simp)
theorem keysOf_nd (n : Net) : (keysOf n).Nodup := setS_nd _
theorem keysOf_len (n : Net) : (keysOf n).length ≤ n.ls.length := by
  have h : ∀ l : List Str, (nub l).length ≤ l.length := fun l => by
    induction l with
    | nil => exact Nat.le_refl _
    | cons x r ih =>
      unfold nub
      split
      · exact Nat.le_succ_of_le ih
      · exact Nat.succ_le_succ ih
  have := h (n.ls.map keyL)
  unfold keysOf setT setS
  rw [len_srt]
  rwa [List.length_map] at this
end Kl
/-! KlMM: min(a, b), max(a, b) of data. -/
namespace Kl
open PySem PySem.Spec PyProof.Rows L2 PySem.W
section
variable {P : Program} {w : World} {A : Around} {E : Value → Shared → Prop} {s : Shared} {a b : Value} {d1 d2 : PyData} {as bs : List Addr}
theorem best_two (bt : Nat → Nat → Bool) : argBest bt 1 = if bt 1 0 = true then 1 else 0 := rfl
theorem min_two {Q : Value → Shared → Prop} (hh : A.handled = none) (h1 : Reads s.heap a d1 as) (h2 : Reads s.heap b d2 bs) (al : AlikeAll [d1, d2]) (hu : A.units + 1 + PyData.depthAll [d1, d2] < cLine)
    (q : ∀ v h' tk, v = (if dataLt d2 d1 = true then b else a) → (∀ c u, s.heap.get? c = some u → h'.get? c = some u) → Q v { s with heap := h', toks := tk }) : wpAny (model P w) A (call (.builtin "min") [a, b]) Q E s := by
  refine call_function_tree F.kind_min F.plain_min F.entry_min (F.args_min2 _ _) (wpAny_bind (m := Builtin.Builtins.bindParams "min" ["key", "default"] 0 ⟨[], []⟩) (wpAny_of_eq (a := [none, none]) rfl (wpAny_bind (m := newTuple [a, b]) (wpAny_newObj_type ?_))))
  have new : (s.heap.push { cls := .type "tuple", data := .seq #[a, b] }).IsTuple s.heap.objs.size #[a, b] := ⟨_, Heap.get?_push_size _ rfl, rfl, _, rfl⟩
  have old : ∀ c u, s.heap.get? c = some u → (s.heap.push { cls := .type "tuple", data := .seq #[a, b] }).get? c = some u := fun c u e => Heap.get?_push_of_some _ e
  have rd : ReadsAll (s.heap.push { cls := .type "tuple", data := .seq #[a, b] }) [a, b] [d1, d2] (as ++ (bs ++ [])) := .cons (reads_keeps old h1) (.cons (reads_keeps old h2) .nil)
  refine wpAny_bind (iter_tupleW (s := { s with heap := s.heap.push { cls := .type "tuple", data := .seq #[a, b] } }) (A := A.in1) hh new fun s2 e W st low off keep => wpAny_bind (wpAny_newObj_type ?_))
  have far : s2.heap.objs.size ∉ [(s.heap.push { cls := .type "tuple", data := .seq #[a, b] }).objs.size, s.heap.objs.size] := fun hm => Nat.lt_irrefl _ (low _ hm)
  rw [show (toString "min" ++ toString ".loop" : String) = "min.loop" from by decide]
  refine wpAny_pure ⟨plainId_quiet F.plain_min_loop _, codeAny_min_loop_firstH W _ off _ (cmpIn_lt (A := A.in1) (s := { s with heap := s.heap.push { cls := .type "tuple", data := .seq #[a, b] } }) (vs := #[a, b]) rd al hu) s2.heap.objs.size far (fresh_in keep) _ (Nat.succ_pos 1)
    (fun c u e => Heap.get?_push_of_some _ (keep c u e)) (W.frame 0 s2 _ s2.toks st (Nat.le_refl _) fun c _ u e => Heap.get?_push_of_some _ e) (Heap.get?_push_size _ rfl) fun v s3 hv mv => ?_⟩
  obtain ⟨h4, tk, e4, g4⟩ := moved_old e rfl (Moved.drop_new (tk := s2.toks) mv (Nat.le_refl _))
  rw [e4]
  refine q v h4 tk ?_ fun c u e => g4 c u (old c u e)
  have hv : (#[a, b] : Array Value)[argBest (fun i j => dataLt ([d1, d2].getD i .none) ([d1, d2].getD j .none)) 1]? = some v := hv
  rw [best_two] at hv
  simp only [List.getD_cons_zero, List.getD_cons_succ] at hv
  by_cases c : dataLt d2 d1 = true
  · rw [if_pos c] at hv ⊢
    simpa using hv.symm
  · rw [if_neg c] at hv ⊢
    simpa using hv.symm
theorem max_two {Q : Value → Shared → Prop} (hh : A.handled = none) (h1 : Reads s.heap a d1 as) (h2 : Reads s.heap b d2 bs) (al : AlikeAll [d1, d2]) (hu : A.units + 1 + PyData.depthAll [d1, d2] < cLine)
    (q : ∀ v h' tk, v = (if dataLt d1 d2 = true then b else a) → (∀ c u, s.heap.get? c = some u → h'.get? c = some u) → Q v { s with heap := h', toks := tk }) : wpAny (model P w) A (call (.builtin "max") [a, b]) Q E s := by
  refine call_function_tree F.kind_max F.plain_max F.entry_max (F.args_max2 _ _) (wpAny_bind (m := Builtin.Builtins.bindParams "max" ["key", "default"] 0 ⟨[], []⟩) (wpAny_of_eq (a := [none, none]) rfl (wpAny_bind (m := newTuple [a, b]) (wpAny_newObj_type ?_))))
  have new : (s.heap.push { cls := .type "tuple", data := .seq #[a, b] }).IsTuple s.heap.objs.size #[a, b] := ⟨_, Heap.get?_push_size _ rfl, rfl, _, rfl⟩
  have old : ∀ c u, s.heap.get? c = some u → (s.heap.push { cls := .type "tuple", data := .seq #[a, b] }).get? c = some u := fun c u e => Heap.get?_push_of_some _ e
  have rd : ReadsAll (s.heap.push { cls := .type "tuple", data := .seq #[a, b] }) [a, b] [d1, d2] (as ++ (bs ++ [])) := .cons (reads_keeps old h1) (.cons (reads_keeps old h2) .nil)
  refine wpAny_bind (iter_tupleW (s := { s with heap := s.heap.push { cls := .type "tuple", data := .seq #[a, b] } }) (A := A.in1) hh new fun s2 e W st low off keep => wpAny_bind (wpAny_newObj_type ?_))
  have far : s2.heap.objs.size ∉ [(s.heap.push { cls := .type "tuple", data := .seq #[a, b] }).objs.size, s.heap.objs.size] := fun hm => Nat.lt_irrefl _ (low _ hm)
  rw [show (toString "max" ++ toString ".loop" : String) = "max.loop" from by decide]
  refine wpAny_pure ⟨plainId_quiet F.plain_max_loop _, codeAny_max_loop_firstH W _ off _ (cmpIn_gt (A := A.in1) (s := { s with heap := s.heap.push { cls := .type "tuple", data := .seq #[a, b] } }) (vs := #[a, b]) rd al hu) s2.heap.objs.size far (fresh_in keep) _ (Nat.succ_pos 1)
    (fun c u e => Heap.get?_push_of_some _ (keep c u e)) (W.frame 0 s2 _ s2.toks st (Nat.le_refl _) fun c _ u e => Heap.get?_push_of_some _ e) (Heap.get?_push_size _ rfl) fun v s3 hv mv => ?_⟩
  obtain ⟨h4, tk, e4, g4⟩ := moved_old e rfl (Moved.drop_new (tk := s2.toks) mv (Nat.le_refl _))
  rw [e4]
  refine q v h4 tk ?_ fun c u e => g4 c u (old c u e)
  have hv : (#[a, b] : Array Value)[argBest (fun i j => dataLt ([d1, d2].getD j .none) ([d1, d2].getD i .none)) 1]? = some v := hv
  rw [best_two] at hv
  simp only [List.getD_cons_zero, List.getD_cons_succ] at hv
  by_cases c : dataLt d1 d2 = true
  · rw [if_pos c] at hv ⊢
    simpa using hv.symm
  · rw [if_neg c] at hv ⊢
    simpa using hv.symm
end
end Kl
/-! KlMis: small rules. -/
namespace Kl
open PySem PySem.Spec PyProof.Rows L2 PySem.W
section
variable {X : Cx} {C : Cfg} {δ δ' : Dl} {a b c e tg : Expr} {es : List Expr} {d d1 d2 r : PyData} {ds ds1 ds2 : List PyData} {pos p p2 : Pos} {k k' : Bool} {Φ : VK} {R : Ass} {st : Stmt} {sts rest : List Stmt}
/-- an expression as a statement -/
theorem hs_expr (he : Ev X C δ e d) (hs : swapsWith e none pos.line X.env = pure false := by rfl) : Hs X (Kn C δ) (.Expr e pos) (Kn C δ) Φ :=
  (ps_expr he hs).imp fun D σ H ⟨⟨M, ok⟩, q, _⟩ => ⟨M, ok, fun v H' sm s rv => q σ H' ⟨M, ok.mono s⟩⟩
/-- a def that falls off its end -/
theorem rt_none {σ : L2.St} {H : Hp} (h : Kn C δ σ H) : Rt C .none .non H := by
  obtain ⟨M, ok⟩ := h
  exact ⟨ok.fr, .non⟩
/-! ### calls of built-ins with data -/
theorem ev_c1 {x : Str} {id : String} {rd : List V → Hp → VK → Prop} (hc : CallR X (.builtin id) rd) (ha : Ev X C δ a d1) (hm : X.mg x = none) (hv : bootBuiltins x = some (.builtin id)) (hr : ∀ (M : List Addr) (H : Hp) (v : V) (Q : VK), Trk M H → Rp (hid M H) v d1 → (∀ v H', Same H H' → Rp (hid M H') v d → Q v H') → rd [v] H Q)
    (hg : Gl X x := by rfl) (hn : x ≠ "__name__" := by decide) (hdb : (x == ("__debug__" : Str)) = false := by decide) (he : starEach [a] X.env = (false, eval a X.env) :: starEach [] X.env := by rfl) : Ev X C δ (.Call (.Name x p) [a] [] pos) d :=
  Ev.mk (pe_callB hc hg hm hv (pa_cons ha pa_nil he) hn hdb he) fun M σ H Q ok q => ⟨M, ok, fun v H1 sm s r => hr M H1 v _ (ok.mono s).trk r fun w H2 s2 rw sm2 => q w H2 sm2 (s.trans s2) rw⟩
theorem ev_c1T {x : Str} {T : String} {rd : List V → Hp → VK → Prop} (hc : CallR X (.type T) rd) (ha : Ev X C δ a d1) (hm : X.mg x = none) (hv : bootBuiltins x = some (.type T)) (hr : ∀ (M : List Addr) (H : Hp) (v : V) (Q : VK), Trk M H → Rp (hid M H) v d1 → (∀ v H', Same H H' → Rp (hid M H') v d → Q v H') → rd [v] H Q)
    (hg : Gl X x := by rfl) (hn : x ≠ "__name__" := by decide) (hdb : (x == ("__debug__" : Str)) = false := by decide) (he : starEach [a] X.env = (false, eval a X.env) :: starEach [] X.env := by rfl) : Ev X C δ (.Call (.Name x p) [a] [] pos) d :=
  Ev.mk (pe_callTy hc hg hm hv (pa_cons ha pa_nil he) hn hdb he) fun M σ H Q ok q => ⟨M, ok, fun v H1 sm s r => hr M H1 v _ (ok.mono s).trk r fun w H2 s2 rw sm2 => q w H2 sm2 (s.trans s2) rw⟩
theorem ev_c2 {x : Str} {id : String} {rd : List V → Hp → VK → Prop} (hc : CallR X (.builtin id) rd) (ha : Ev X C δ a d1) (hb : Ev X C δ b d2) (hm : X.mg x = none) (hv : bootBuiltins x = some (.builtin id)) (hr : ∀ (M : List Addr) (H : Hp) (v w : V) (Q : VK), Trk M H → Rp (hid M H) v d1 → Rp (hid M H) w d2 → (∀ v H', Same H H' → Rp (hid M H') v d → Q v H') → rd [v, w] H Q)
    (hg : Gl X x := by rfl) (hn : x ≠ "__name__" := by decide) (hdb : (x == ("__debug__" : Str)) = false := by decide) (he : starEach [a, b] X.env = (false, eval a X.env) :: starEach [b] X.env := by rfl) (he2 : starEach [b] X.env = (false, eval b X.env) :: starEach [] X.env := by rfl) (hpl : (backTo pos (starEach [b] X.env)).any (·.1) = false := by rfl) : Ev X C δ (.Call (.Name x p) [a, b] [] pos) d :=
  Ev.mk (pe_callB hc hg hm hv (pa_cons ha (pa_cons hb pa_nil he2) he) hn hdb he hpl) fun M σ H Q ok q => ⟨M, ok, fun v H1 sm s r => ⟨M, ok.mono s, fun w H2 sm2 s2 r2 => hr M H2 v w _ (ok.mono (s.trans s2)).trk (r.mono (hid_same s2)) r2 fun z H3 s3 rz sm3 => q z H3 sm3 ((s.trans s2).trans s3) rz⟩⟩
theorem ev_abs {i : Int} (hm : X.mg "abs" = none) (ha : Ev X C δ a (.int i)) (hg : Gl X "abs" := by rfl) (he : starEach [a] X.env = (false, eval a X.env) :: starEach [] X.env := by rfl) : Ev X C δ (.Call (.Name "abs" p) [a] [] pos) (.int (if i < 0 then -i else i)) :=
  ev_c1 call_abs ha hm (by decide +kernel) (fun M H v Q t r q => by cases r; exact ⟨i, rfl, q _ H (Same.refl H) (.int _)⟩) hg (by decide) (by decide) he
theorem ev_int1 {i : Int} (hm : X.mg "int" = none) (ha : Ev X C δ a (.int i)) (hg : Gl X "int" := by rfl) (he : starEach [a] X.env = (false, eval a X.env) :: starEach [] X.env := by rfl) : Ev X C δ (.Call (.Name "int" p) [a] [] pos) (.int i) :=
  ev_c1T call_int1 ha hm boot_int (fun M H v Q t r q => by cases r; exact .inl ⟨i, rfl, q _ H (Same.refl H) (.int _)⟩) hg (by decide) (by decide) he
theorem ev_intB (hm : X.mg "int" = none) (ha : Ev X C δ a (.bool k)) (hg : Gl X "int" := by rfl) (he : starEach [a] X.env = (false, eval a X.env) :: starEach [] X.env := by rfl) : Ev X C δ (.Call (.Name "int" p) [a] [] pos) (.int (if k then 1 else 0)) :=
  ev_c1T call_int1 ha hm boot_int (fun M H v Q t r q => by cases r; exact .inr ⟨k, rfl, q _ H (Same.refl H) (.int _)⟩) hg (by decide) (by decide) he
theorem ev_max2 {i j : Int} (hm : X.mg "max" = none) (hc : X.calm = true) (ha : Ev X C δ a (.int i)) (hb : Ev X C δ b (.int j)) (hg : Gl X "max" := by rfl) (he : starEach [a, b] X.env = (false, eval a X.env) :: starEach [b] X.env := by rfl) (he2 : starEach [b] X.env = (false, eval b X.env) :: starEach [] X.env := by rfl) (hpl : (backTo pos (starEach [b] X.env)).any (·.1) = false := by rfl) :
    Ev X C δ (.Call (.Name "max" p) [a, b] [] pos) (.int (if j > i then j else i)) :=
  ev_c2 (call_max2 hc) ha hb hm (by decide +kernel) (fun M H v w Q t r r2 q => by cases r; cases r2; exact ⟨i, j, rfl, q _ H (Same.refl H) (.int _)⟩) hg (by decide) (by decide) he he2 hpl
theorem ev_min2 {i j : Int} (hm : X.mg "min" = none) (hc : X.calm = true) (ha : Ev X C δ a (.int i)) (hb : Ev X C δ b (.int j)) (hg : Gl X "min" := by rfl) (he : starEach [a, b] X.env = (false, eval a X.env) :: starEach [b] X.env := by rfl) (he2 : starEach [b] X.env = (false, eval b X.env) :: starEach [] X.env := by rfl) (hpl : (backTo pos (starEach [b] X.env)).any (·.1) = false := by rfl) :
    Ev X C δ (.Call (.Name "min" p) [a, b] [] pos) (.int (if j < i then j else i)) :=
  ev_c2 (call_min2 hc) ha hb hm (by decide +kernel) (fun M H v w Q t r r2 q => by cases r; cases r2; exact ⟨i, j, rfl, q _ H (Same.refl H) (.int _)⟩) hg (by decide) (by decide) he he2 hpl
/-- min(a list of ints) -/
def minI : List Int → Int
  | [] => 0
  | x :: r => r.foldl (fun a y => if y < a then y else a) x
theorem minI_fold : ∀ (r : List Int) (x : Int), (r.foldl (fun a y => if y < a then y else a) x ∈ x :: r) ∧ ∀ y ∈ x :: r, r.foldl (fun a y => if y < a then y else a) x ≤ y
  | [], x => ⟨by simp, by simp⟩
  | z :: r, x => by
    rw [List.foldl_cons]
    by_cases c : z < x
    · rw [if_pos c]
      obtain ⟨h1, h2⟩ := minI_fold r z
      refine ⟨List.mem_cons_of_mem _ h1, fun y hy => ?_⟩
      rcases List.mem_cons.mp hy with rfl | hy
      · have := h2 z List.mem_cons_self
        omega
      · exact h2 y hy
    · rw [if_neg c]
      obtain ⟨h1, h2⟩ := minI_fold r x
      refine ⟨(List.mem_cons.mp h1).elim (fun e => by rw [e]; exact List.mem_cons_self) fun e => List.mem_cons_of_mem _ (List.mem_cons_of_mem _ e), fun y hy => ?_⟩
      rcases List.mem_cons.mp hy with rfl | hy
      · exact h2 _ List.mem_cons_self
      · rcases List.mem_cons.mp hy with rfl | hy
        · have := h2 x List.mem_cons_self
          omega
        · exact h2 y (List.mem_cons_of_mem _ hy)
theorem minI_eq {ns : List Int} {m : Int} (h1 : m ∈ ns) (h2 : ∀ y ∈ ns, m ≤ y) : m = minI ns := by
  cases ns with
  | nil => cases h1
  | cons x r =>
    obtain ⟨h3, h4⟩ := minI_fold r x
    have a := h2 _ h3
    have b := h4 _ h1
    show m = r.foldl _ x
    omega
theorem ev_minL {ns : List Int} (hm : X.mg "min" = none) (hc : X.calm = true) (ha : Ev X C δ a (.list (ns.map .int))) (hne : ns ≠ []) (hg : Gl X "min" := by rfl) (he : starEach [a] X.env = (false, eval a X.env) :: starEach [] X.env := by rfl) : Ev X C δ (.Call (.Name "min" p) [a] [] pos) (.int (minI ns)) :=
  ev_c1 (cr_min hc) ha hm (by decide +kernel) (fun M H v Q t r q => by
    cases r with
    | @lst l vs _ h r =>
      have e := r.ints
      subst e
      exact ⟨l, ns, rfl, SqL.of (hid_le _ _ h), List.length_pos_iff.mpr hne, fun m h1 h2 => by rw [minI_eq h1 h2]; exact q _ H (Same.refl H) (.int _)⟩) hg (by decide) (by decide) he
/-- min, max of two tuples -/
def rMinD (f : PyData → PyData → Bool) (d1 d2 : PyData) (K : PySem.W.Frag) : List V → Hp → VK → Prop := fun vs H Q => ∃ v w, vs = [v, w] ∧ Dp K H v d1 ∧ Dp K H w d2 ∧ Q (if f d1 d2 = true then w else v) H
theorem cr_minD (hc : X.calm = true) (hu : X.A.units + 64 < cLine) (al : AlikeAll [d1, d2]) (dp : PyData.depthAll [d1, d2] ≤ 40) : CallR X (.builtin "min") (rMinD (fun a b => dataLt b a) d1 d2 X.K) := by
  intro pins s σ H vs us Q I r h
  obtain ⟨v, w, rfl, h1, h2, q⟩ := h
  obtain ⟨u1, u2, rfl, r1, r2⟩ := vals2 r
  obtain ⟨as, e1⟩ := Dp.reads I _ _ _ h1 r1
  obtain ⟨bs, e2⟩ := Dp.reads I _ _ _ h2 r2
  refine min_two (I.ok.hd hc) e1 e2 al (by omega) fun z h' tk ez g => ⟨_, H, I.kept (t' := tk) g, ?_, q⟩
  rw [ez]
  by_cases c : dataLt d2 d1 = true
  · rw [if_pos c, if_pos c]; exact r2
  · rw [if_neg c, if_neg c]; exact r1
theorem cr_maxD (hc : X.calm = true) (hu : X.A.units + 64 < cLine) (al : AlikeAll [d1, d2]) (dp : PyData.depthAll [d1, d2] ≤ 40) : CallR X (.builtin "max") (rMinD (fun a b => dataLt a b) d1 d2 X.K) := by
  intro pins s σ H vs us Q I r h
  obtain ⟨v, w, rfl, h1, h2, q⟩ := h
  obtain ⟨u1, u2, rfl, r1, r2⟩ := vals2 r
  obtain ⟨as, e1⟩ := Dp.reads I _ _ _ h1 r1
  obtain ⟨bs, e2⟩ := Dp.reads I _ _ _ h2 r2
  refine max_two (I.ok.hd hc) e1 e2 al (by omega) fun z h' tk ez g => ⟨_, H, I.kept (t' := tk) g, ?_, q⟩
  rw [ez]
  by_cases c : dataLt d1 d2 = true
  · rw [if_pos c, if_pos c]; exact r2
  · rw [if_neg c, if_neg c]; exact r1
theorem al_eK (x y : List Str) : AlikeAll [eK x, eK y] ∧ PyData.depthAll [eK x, eK y] ≤ 40 := by
  have key : ∀ a b : List Str, alike (eK a) (eK b) = true := fun a b => by simp only [eK, alike]; exact alike_texts a b
  refine ⟨⟨fun a ha b hb => ?_, fun a ha => ?_⟩, ?_⟩
  · simp only [List.mem_cons, List.not_mem_nil, or_false] at ha hb
    rcases ha with rfl | rfl <;> rcases hb with rfl | rfl <;> exact key _ _
  · simp only [List.mem_cons, List.not_mem_nil, or_false] at ha
    rcases ha with rfl | rfl <;> exact nofun
  · have h1 := depth_texts x
    have h2 := depth_texts y
    simp only [PyData.depthAll]
    omega
theorem ev_minK {n : Nat} {x y : List Str} (hr : Room n X.A) (hm : X.mg "min" = none) (hc : X.calm = true) (ha : Ev X C δ a (eK x)) (hb : Ev X C δ b (eK y)) (hg : Gl X "min" := by rfl) (he : starEach [a, b] X.env = (false, eval a X.env) :: starEach [b] X.env := by rfl) (he2 : starEach [b] X.env = (false, eval b X.env) :: starEach [] X.env := by rfl) (hpl : (backTo pos (starEach [b] X.env)).any (·.1) = false := by rfl) :
    Ev X C δ (.Call (.Name "min" p) [a, b] [] pos) (if dataLt (eK y) (eK x) = true then eK y else eK x) :=
  ev_c2 (cr_minD hc hr.units (al_eK x y).1 (al_eK x y).2) ha hb hm (by decide +kernel) (fun M H v w Q t r r2 q => ⟨v, w, rfl, (r.mono hid_le).dp (by simpa [plA] using lay_eK [x]), (r2.mono hid_le).dp (by simpa [plA] using lay_eK [y]), by
    by_cases c : dataLt (eK y) (eK x) = true
    · rw [if_pos c] at q ⊢; exact q _ H (Same.refl H) r2
    · rw [if_neg c] at q ⊢; exact q _ H (Same.refl H) r⟩) hg (by decide) (by decide) he he2 hpl
theorem ev_maxK {n : Nat} {x y : List Str} (hr : Room n X.A) (hm : X.mg "max" = none) (hc : X.calm = true) (ha : Ev X C δ a (eK x)) (hb : Ev X C δ b (eK y)) (hg : Gl X "max" := by rfl) (he : starEach [a, b] X.env = (false, eval a X.env) :: starEach [b] X.env := by rfl) (he2 : starEach [b] X.env = (false, eval b X.env) :: starEach [] X.env := by rfl) (hpl : (backTo pos (starEach [b] X.env)).any (·.1) = false := by rfl) :
    Ev X C δ (.Call (.Name "max" p) [a, b] [] pos) (if dataLt (eK x) (eK y) = true then eK y else eK x) :=
  ev_c2 (cr_maxD hc hr.units (al_eK x y).1 (al_eK x y).2) ha hb hm (by decide +kernel) (fun M H v w Q t r r2 q => ⟨v, w, rfl, (r.mono hid_le).dp (by simpa [plA] using lay_eK [x]), (r2.mono hid_le).dp (by simpa [plA] using lay_eK [y]), by
    by_cases c : dataLt (eK x) (eK y) = true
    · rw [if_pos c] at q ⊢; exact q _ H (Same.refl H) r2
    · rw [if_neg c] at q ⊢; exact q _ H (Same.refl H) r⟩) hg (by decide) (by decide) he he2 hpl
/-! ### isinstance -/
def tyS : PyData → String
  | .none => "NoneType"
  | .bool _ => "bool"
  | .int _ => "int"
  | .str _ => "str"
  | .list _ => "list"
  | .tuple _ => "tuple"
  | .dict _ => "dict"
def notDic : PyData → Bool
  | .dict _ => false
  | _ => true
theorem ty_rp {K : PySem.W.Frag} {H : Hp} {v : V} (r : Rp H v d) (n : notDic d = true) : TyX K H v (.type (tyS d)) := by
  cases r with
  | non => exact .base .non
  | bl b => exact .base (.bl b)
  | int i => exact .base (.int i)
  | str x => exact .base (.str x)
  | lst h r => exact .base (.lst h)
  | tup h r => exact .base (.tup h)
  | dic L s h => cases n
theorem TyX.up {K : PySem.W.Frag} {M : List Addr} {H : Hp} {v : V} (r : Rp (hid M H) v d) (n : notDic d = true) : TyX K H v (.type (tyS d)) := ty_rp (r.mono hid_le) n
/-- isinstance(x, T) -/
theorem ev_isi {x : Str} {T : String} {q : Pos} (hm : X.mg "isinstance" = none) (hm2 : X.mg x = none) (hT : bootBuiltins x = some (.type T)) (ha : Ev X C δ a d) (n : notDic d = true) (hk : kitB (tyS d) T = some k) (hg : Gl X "isinstance" := by rfl) (hg2 : Gl X x := by rfl) (hn : x ≠ "__name__" := by decide) (hdb : (x == ("__debug__" : Str)) = false := by decide)
    (he : starEach [a, .Name x q] X.env = (false, eval a X.env) :: starEach [.Name x q] X.env := by rfl) (he2 : starEach [.Name x q] X.env = (false, eval (.Name x q) X.env) :: starEach [] X.env := by rfl) (hpl : (backTo pos (starEach [.Name x q] X.env)).any (·.1) = false := by rfl) : Ev X C δ (.Call (.Name "isinstance" p) [a, .Name x q] [] pos) (.bool k) :=
  Ev.mk (pe_callB call_isi hg hm (by decide +kernel) (pa_cons ha (pa_cons (pe_bltn hg2 hm2 hT (v := .ty T) rfl hn hdb) pa_nil he2) he) (by decide) (by decide) he hpl) fun M σ H Q ok qq => ⟨M, ok, fun v H1 sm s r => ⟨v, .ty T, .type (tyS d), .type T, k, rfl, .ty T, TyX.up r n, kit_ty hk, fun sm2 => qq _ H1 sm2 s (.bl _)⟩⟩
/-- isinstance(x, (T1, T2)) -/
theorem ev_isi2 {x y : Str} {T1 T2 : String} {k1 k2 : Bool} {q q2 qt : Pos} {kt : Nat} (hm : X.mg "isinstance" = none) (hm2 : X.mg x = none) (hm3 : X.mg y = none) (hT : bootBuiltins x = some (.type T1)) (hT2 : bootBuiltins y = some (.type T2)) (ha : Ev X C δ a d) (n : notDic d = true) (hk : kitB (tyS d) T1 = some k1) (hk2 : kitB (tyS d) T2 = some k2) (hg : Gl X "isinstance" := by rfl) (hg2 : Gl X x := by rfl) (hg3 : Gl X y := by rfl)
    (hn : x ≠ "__name__" := by decide) (hdb : (x == ("__debug__" : Str)) = false := by decide) (hn2 : y ≠ "__name__" := by decide) (hdb2 : (y == ("__debug__" : Str)) = false := by decide)
    (he : starEach [a, .Tuple [.Name x q, .Name y q2] kt qt] X.env = (false, eval a X.env) :: starEach [.Tuple [.Name x q, .Name y q2] kt qt] X.env := by rfl) (he2 : starEach [.Tuple [.Name x q, .Name y q2] kt qt] X.env = (false, eval (.Tuple [.Name x q, .Name y q2] kt qt) X.env) :: starEach [] X.env := by rfl)
    (he3 : starEach [.Name x q, .Name y q2] X.env = (false, eval (.Name x q) X.env) :: starEach [.Name y q2] X.env := by rfl) (he4 : starEach [.Name y q2] X.env = (false, eval (.Name y q2) X.env) :: starEach [] X.env := by rfl) (hpl : (backTo pos (starEach [.Tuple [.Name x q, .Name y q2] kt qt] X.env)).any (·.1) = false := by rfl) : Ev X C δ (.Call (.Name "isinstance" p) [a, .Tuple [.Name x q, .Name y q2] kt qt] [] pos) (.bool (k1 || k2)) :=
  Ev.mk (pe_callB call_isiT hg hm (by decide +kernel) (pa_cons ha (pa_cons (pe_tup (pa_cons (pe_bltn hg2 hm2 hT (v := .ty T1) rfl hn hdb) (pa_cons (pe_bltn hg3 hm3 hT2 (v := .ty T2) rfl hn2 hdb2) pa_nil he4) he3)) pa_nil he2) he) (by decide) (by decide) he hpl) fun M σ H Q ok qq => ⟨M, ok, fun v H1 sm s r => ⟨by show 2 ≤ sizeLine; decide, fun T hT => by
    have nh := same_new (o := .tup [.ty T1, .ty T2]) hT
    refine ⟨v, T, [.ty T1, .ty T2], .type (tyS d), [.type T1, .type T2], k1 || k2, rfl, upd_same, .cons (.ty T1) (.cons (.ty T2) .nil), ty_rp (r.mono (hid_le.trans nh)) n, kitAny_cons (kit_ty hk) (fun e => kitAny_cons (kit_ty hk2) (fun e2 => ?_) fun e2 => ?_) fun e => ?_, fun sm2 => qq _ _ sm2 (s.trans nh) (.bl _)⟩
    · rw [e, e2]; exact kitAny_nil
    · rw [e2]; simp
    · rw [e]; rfl⟩⟩
end
end Kl
/-! KlBox: the law's box: what is left in it, expressions that draw from it, defs that draw from it. -/
namespace Kl
open PySem PySem.Spec PyProof.Rows L2
open C8 (Cal pe_c)
/-- k more may be drawn -/
def Bud (k : Nat) : Int → Int → Int → Prop := fun _ s c => 0 ≤ s ∧ s < 4611686018427387904 ∧ 0 ≤ c ∧ c + (k : Int) ≤ 1000000
theorem Bud.le {k k' : Nat} (h : k' ≤ k) {g s c : Int} (b : Bud k g s c) : Bud k' g s c := ⟨b.1, b.2.1, b.2.2.1, by have := b.2.2.2; omega⟩
abbrev bx (k : Nat) (δ : Dl) : Dl := some (.box (Bud k)) :: δ
def SameX (b : Addr) (H H' : Hp) : Prop := ∀ a o, a ≠ b → H a = some o → H' a = some o
theorem SameX.hid {M : List Addr} {b : Addr} {H H' : Hp} (h : SameX b H H') (hb : b ∈ M) : Same (hid M H) (hid M H') := fun a o q => by
  obtain ⟨h1, h2⟩ := hid_of q
  rw [hid_at h1]
  exact h a o (fun e => h1 (e ▸ hb)) h2
theorem EntOk.sx {C : Cfg} {M : List Addr} {b : Addr} {H H' : Hp} {v : V} (s : SameX b H H') (hb : b ∈ M) : ∀ {e : Ent}, (isOwn e = true → v ≠ .ref b) → EntOk C M H v e → EntOk C M H' v e
  | .dat d, _, h => Rp.mono (s.hid hb) h
  | .own ds, n, ⟨l, xs, e1, e2, e3, e4, e5⟩ => ⟨l, xs, e1, e2, e3, s _ _ (fun e => n rfl (by rw [e1, e])) e4, e5.mono (s.hid hb)⟩
  | .tbl ks ds, n, ⟨l, xs, e1, e2, e3, e4, e5⟩ => ⟨l, xs, e1, e2, e3, s _ _ (fun e => n rfl (by rw [e1, e])) e4, e5.mono (s.hid hb)⟩
  | .dct L, n, ⟨l, e1, e2, e3, e4, e5⟩ => ⟨l, e1, e2, e3, e4, s _ _ (fun e => n rfl (by rw [e1, e])) e5⟩
  | .box P, n, ⟨l, e1, e2, e3, g, s', c, e4, e5⟩ => ⟨l, e1, e2, e3, g, s', c, s _ _ (fun e => n rfl (by rw [e1, e])) e4, e5⟩
  | .scr ns, _, ⟨a, e1, e2⟩ => ⟨a, e1, Same.seq (s.hid hb) e2⟩
section
variable {C : Cfg} {M : List Addr} {δ : Dl} {σ : L2.St} {H H' : Hp} {P P' : Int → Int → Int → Prop} {b : Addr}
theorem OkM.boxed (ok : OkM C M (some (.box P) :: δ) σ H) (hv : σ[0]? = some (some (.ref b))) (s : SameX b H H') (hb : BoxAt H' b P') (bM : b ∈ M) (bB : b ∈ C.B) : OkM C M (some (.box P') :: δ) σ H' := by
  refine ⟨fun a o h1 h2 => s a o (fun e => h1 (e ▸ bB)) (ok.fr a o h1 h2), ok.t0, ok.b0, ok.sub, fun m hm => ?_, fun p hp => p.up (s.hid bM) (ok.pin p hp), ok.len, fun i e h => ?_, fun i j e e' v h1 h2 h3 h4 h5 h6 => ?_⟩
  · by_cases e : m = b
    · obtain ⟨g, s', c, q, _⟩ := hb
      rw [e]
      exact ⟨_, q, rfl⟩
    · obtain ⟨o, h1, h2⟩ := ok.trk m hm
      exact ⟨o, s m o e h1, h2⟩
  · cases i with
    | zero =>
      have e : e = .box P' := by simpa using h.symm
      subst e
      exact ⟨.ref b, hv, b, rfl, bM, bB, hb⟩
    | succ i =>
      obtain ⟨v, h1, h2⟩ := ok.val (i + 1) e (by simpa using h)
      refine ⟨v, h1, h2.sx s bM fun ho z => ?_⟩
      subst z
      have := ok.apart 0 (i + 1) (.box P) e (.ref b) rfl (by simpa using h) rfl ho hv h1
      omega
  · cases i with
    | zero =>
      cases j with
      | zero => rfl
      | succ j => exact ok.apart 0 (j + 1) (.box P) e' v rfl (by simpa using h2) rfl h4 h5 h6
    | succ i =>
      cases j with
      | zero => exact ok.apart (i + 1) 0 e (.box P) v (by simpa using h1) rfl h3 rfl h5 h6
      | succ j => exact ok.apart (i + 1) (j + 1) e e' v (by simpa using h1) (by simpa using h2) h3 h4 h5 h6
theorem OkM.box (ok : OkM C M (some (.box P) :: δ) σ H) : ∃ b, σ[0]? = some (some (.ref b)) ∧ b ∈ M ∧ b ∈ C.B ∧ BoxAt H b P := by
  obtain ⟨v, h1, b, rfl, h2, h3, h4⟩ := ok.val 0 _ rfl
  exact ⟨b, h1, h2, h3, h4⟩
theorem OkM.boxle {k k' : Nat} (ok : OkM C M (bx k δ) σ H) (h : k' ≤ k) : OkM C M (bx k' δ) σ H := by
  obtain ⟨b, h1, h2, h3, g, s, c, h4, h5⟩ := ok.box
  exact ok.boxed h1 (fun _ _ _ q => q) ⟨g, s, c, h4, h5.le h⟩ h2 h3
end
/-! ### expressions that draw -/
/-- only the box in slot 0 has changed -/
def Mv (σ : L2.St) (M : List Addr) (H H' : Hp) : Prop := Same (hid M H) (hid M H') ∧ ∃ b, σ[0]? = some (some (.ref b)) ∧ SameX b H H'
theorem Mv.trans {σ : L2.St} {M : List Addr} {H H1 H2 : Hp} (h : Mv σ M H H1) (g : Mv σ M H1 H2) : Mv σ M H H2 := by
  obtain ⟨s1, b, e1, x1⟩ := h
  obtain ⟨s2, b', e2, x2⟩ := g
  rw [e1] at e2
  cases e2
  exact ⟨s1.trans s2, b, e1, fun a o ne q => x2 a o ne (x1 a o ne q)⟩
theorem Mv.of {C : Cfg} {M : List Addr} {δ : Dl} {σ : L2.St} {H H' : Hp} {P : Int → Int → Int → Prop} (ok : OkM C M (some (.box P) :: δ) σ H) (s : Same H H') : Mv σ M H H' := by
  obtain ⟨b, h1, _, _, _⟩ := ok.box
  exact ⟨hid_same s, b, h1, fun a o _ q => s a o q⟩
def tB (C : Cfg) (k k' : Nat) (δ : Dl) (P : PyData → Prop) : TE := fun σ H Q => ∃ M, OkM C M (bx k δ) σ H ∧ ∀ v H' r, Small H' → OkM C M (bx k' δ) σ H' → Mv σ M H H' → P r → Rp (hid M H') v r → Q v H'
def tBt (C : Cfg) (k k' : Nat) (δ : Dl) : TT := fun σ H Q => ∃ M, OkM C M (bx k δ) σ H ∧ ∀ b H', Small H' → OkM C M (bx k' δ) σ H' → Mv σ M H H' → Q b H'
def tBa (C : Cfg) (k k' : Nat) (δ : Dl) (P : List PyData → Prop) : TA := fun σ H Q => ∃ M, OkM C M (bx k δ) σ H ∧ ∀ vs H' rs, Small H' → OkM C M (bx k' δ) σ H' → Mv σ M H H' → P rs → Rps (hid M H') vs rs → Q vs H'
abbrev EvB (X : Cx) (C : Cfg) (k k' : Nat) (δ : Dl) (e : Expr) (P : PyData → Prop) : Prop := PE X e (tB C k k' δ P)
abbrev EtB (X : Cx) (C : Cfg) (k k' : Nat) (δ : Dl) (e : Expr) : Prop := PT X e (tBt C k k' δ)
abbrev EaB (X : Cx) (C : Cfg) (k k' : Nat) (δ : Dl) (es : List Expr) (P : List PyData → Prop) : Prop := PA X es (tBa C k k' δ P)
section
variable {X : Cx} {C : Cfg} {δ : Dl} {k k1 k2 k3 : Nat} {a b c e : Expr} {es : List Expr} {d d1 d2 : PyData} {P P1 P2 P' : PyData → Prop} {PS : List PyData → Prop} {pos p : Pos}
theorem EvB.mk {t : TE} (h : PE X e t) (i : ∀ M σ H (Q : VK), OkM C M (bx k δ) σ H → (∀ v H' r, Small H' → OkM C M (bx k1 δ) σ H' → Mv σ M H H' → P r → Rp (hid M H') v r → Q v H') → t σ H fun v H' => Small H' → Q v H') : EvB X C k k1 δ e P :=
  h.small.imp fun σ H Q ⟨M, ok, q⟩ => i M σ H Q ok q
theorem evb (h : Ev X C (bx k δ) e d) : EvB X C k k δ e (fun r => r = d) := h.imp fun σ H Q ⟨M, ok, q⟩ => ⟨M, ok, fun v H' sm s r => q v H' d sm (ok.mono s) (.of ok s) rfl r⟩
theorem EvB.imp (h : EvB X C k k1 δ e P) (i : ∀ r, P r → P' r) : EvB X C k k1 δ e P' := L2.PE.imp h fun σ H Q ⟨M, ok, q⟩ => ⟨M, ok, fun v H' r sm ok' s p rv => q v H' r sm ok' s (i r p) rv⟩
theorem EvB.le (h : EvB X C k k1 δ e P) (i : k2 ≤ k1) : EvB X C k k2 δ e P := L2.PE.imp h fun σ H Q ⟨M, ok, q⟩ => ⟨M, ok, fun v H' r sm ok' s p rv => q v H' r sm (ok'.boxle i) s p rv⟩
theorem evb_op {op : Operator} {r : R2} (ho : OpR X (binaryOp op) r) (ha : EvB X C k k1 δ a P1) (hb : EvB X C k1 k2 δ b P2) (hr : ∀ d1 d2, P1 d1 → P2 d2 → ∃ d, OpD r d1 d2 d ∧ P d) : EvB X C k k2 δ (.BinOp a op b pos) P :=
  EvB.mk (pe_op ho ha hb) fun M σ H Q ok q => ⟨M, ok, fun x H1 d1 sm ok1 s p1 r1 => ⟨M, ok1, fun y H2 d2 sm2 ok2 s2 p2 r2 => by
    obtain ⟨d, hd, p⟩ := hr d1 d2 p1 p2
    exact hd M H2 x y _ sm2 ok2.trk (r1.mono s2.1) r2 fun v H3 s3 r3 sm3 => q v H3 d sm3 (ok2.mono s3) ((s.trans s2).trans (.of ok2 s3)) p r3⟩⟩
theorem evb_cmp {op : CmpOp} {r : R2} (ho : OpR X (compareOp op) r) (ha : EvB X C k k1 δ a P1) (hb : EvB X C k1 k2 δ b P2) (hr : ∀ d1 d2, P1 d1 → P2 d2 → ∃ d, OpD r d1 d2 d ∧ P d) (hm : behindInMarks op b = false) : EvB X C k k2 δ (.Compare a [op] [b] pos) P :=
  EvB.mk (pe_cmpR ho ha hb hm) fun M σ H Q ok q => ⟨M, ok, fun x H1 d1 sm ok1 s p1 r1 => ⟨M, ok1, fun y H2 d2 sm2 ok2 s2 p2 r2 => by
    obtain ⟨d, hd, p⟩ := hr d1 d2 p1 p2
    exact hd M H2 x y _ sm2 ok2.trk (r1.mono s2.1) r2 fun v H3 s3 r3 sm3 => q v H3 d sm3 (ok2.mono s3) ((s.trans s2).trans (.of ok2 s3)) p r3⟩⟩
theorem etb_cmp {op : CmpOp} {r : R2} (ho : OpR X (compareOp op) r) (ha : EvB X C k k1 δ a P1) (hb : EvB X C k1 k2 δ b P2) (hr : ∀ d1 d2, P1 d1 → P2 d2 → ∃ t, OpD r d1 d2 (.bool t)) (hm : behindInMarks op b = false) : EtB X C k k2 δ (.Compare a [op] [b] pos) :=
  (PT.small (pt_cmpR ho ha hb hm)).imp fun σ H Q ⟨M, ok, q⟩ => ⟨M, ok, fun x H1 d1 sm ok1 s p1 r1 => ⟨M, ok1, fun y H2 d2 sm2 ok2 s2 p2 r2 => by
    obtain ⟨t, hd⟩ := hr d1 d2 p1 p2
    refine hd M H2 x y _ sm2 ok2.trk (r1.mono s2.1) r2 fun v H3 s3 r3 => ?_
    cases r3
    exact ⟨t, rfl, fun sm3 => q t H3 sm3 (ok2.mono s3) ((s.trans s2).trans (.of ok2 s3))⟩⟩⟩
/-- ints -/
def isI (r : PyData) : Prop := ∃ i : Int, r = .int i
theorem gtB (ha : EvB X C k k1 δ a isI) (hb : EvB X C k1 k2 δ b isI) : EvB X C k k2 δ (.Compare a [.Gt] [b] pos) (fun r => ∃ t : Bool, r = .bool t) :=
  evb_cmp op_gt ha hb (fun d1 d2 h1 h2 => by obtain ⟨i, rfl⟩ := h1; obtain ⟨j, rfl⟩ := h2; exact ⟨.bool (decide (j < i)), od_int fun _ => .bl _, _, rfl⟩) (nomark _)
theorem gtBt (ha : EvB X C k k1 δ a isI) (hb : EvB X C k1 k2 δ b isI) : EtB X C k k2 δ (.Compare a [.Gt] [b] pos) :=
  etb_cmp op_gt ha hb (fun d1 d2 h1 h2 => by obtain ⟨i, rfl⟩ := h1; obtain ⟨j, rfl⟩ := h2; exact ⟨decide (j < i), od_int fun _ => .bl _⟩) (nomark _)
theorem evb_if {hc : EtB X C k k1 δ c} (ha : EvB X C k1 k2 δ a P) (hb : EvB X C k1 k2 δ b P) : EvB X C k k2 δ (.IfExp c a b pos) P := by
  refine ⟨fun pins s σ H Q I h => ?_⟩
  obtain ⟨M, ok, q⟩ := h
  refine wpAny_IfExp (thn (hc.run pins s σ H (fun k1' H1 => OkM C M (bx k1 δ) σ H1 ∧ Mv σ M H H1) I ⟨M, ok, fun t H' sm ok' s => ⟨ok', s⟩⟩) fun d s1 ⟨H1, I1, ok1, s01⟩ => ?_)
  cases d with
  | true => exact ha.run pins s1 σ H1 Q I1 ⟨M, ok1, fun v H2 r sm2 ok2 s2 p rv => q v H2 r sm2 ok2 (s01.trans s2) p rv⟩
  | false => exact hb.run pins s1 σ H1 Q I1 ⟨M, ok1, fun v H2 r sm2 ok2 s2 p rv => q v H2 r sm2 ok2 (s01.trans s2) p rv⟩
/-! ### arguments -/
theorem eab_nil : EaB X C k k δ [] (fun rs => rs = []) := (PA.small pa_nil).imp fun σ H Q ⟨M, ok, q⟩ => fun sm => q [] H [] sm ok (.of ok (Same.refl _)) rfl .nil
theorem eab_cons (ha : EvB X C k k1 δ e P) (hr : EaB X C k1 k2 δ es PS) (hs : starEach (e :: es) X.env = (false, eval e X.env) :: starEach es X.env := by rfl) : EaB X C k k2 δ (e :: es) (fun rs => ∃ r rs', rs = r :: rs' ∧ P r ∧ PS rs') :=
  (pa_cons ha hr hs).imp fun σ H Q ⟨M, ok, q⟩ => ⟨M, ok, fun v H1 r sm ok1 s p rv => ⟨M, ok1, fun vs H2 rs sm2 ok2 s2 ps rvs => q (v :: vs) H2 (r :: rs) sm2 ok2 (s.trans s2) ⟨r, rs, rfl, p, ps⟩ (.cons (rv.mono s2.1) rvs)⟩⟩
theorem EaB.imp {PS' : List PyData → Prop} (h : EaB X C k k1 δ es PS) (i : ∀ rs, PS rs → PS' rs) : EaB X C k k1 δ es PS' := L2.PA.imp h fun σ H Q ⟨M, ok, q⟩ => ⟨M, ok, fun v H' r sm ok' s p rv => q v H' r sm ok' s (i r p) rv⟩
theorem evb_tup {n} (h : EaB X C k k1 δ es PS) (hz : ∀ rs, PS rs → rs.length ≤ sizeLine) : EvB X C k k1 δ (.Tuple es n pos) (fun r => ∃ rs, r = .tuple rs ∧ PS rs) :=
  EvB.mk (pe_tup h) fun M σ H Q ok q => ⟨M, ok, fun vs H' rs sm ok' s ps r => ⟨by rw [r.length]; exact hz rs ps, fun p hp sm2 => q _ _ _ sm2 (ok'.mono (same_new hp)) (s.trans (.of ok' (same_new hp))) ⟨rs, rfl, ps⟩ (rp_newT ok'.trk hp r)⟩⟩
theorem evb_lst (h : EaB X C k k1 δ es PS) (hz : ∀ rs, PS rs → rs.length ≤ sizeLine) : EvB X C k k1 δ (.List es pos) (fun r => ∃ rs, r = .list rs ∧ PS rs) :=
  EvB.mk (pe_lst h) fun M σ H Q ok q => ⟨M, ok, fun vs H' rs sm ok' s ps r => ⟨by rw [r.length]; exact hz rs ps, fun p hp sm2 => q _ _ _ sm2 (ok'.mono (same_new hp)) (s.trans (.of ok' (same_new hp))) ⟨rs, rfl, ps⟩ (rp_newL ok'.trk hp r)⟩⟩
/-! ### calls of built-ins with one drawn thing -/
theorem evb_c1 {x : Str} {id : String} {rd : List V → Hp → VK → Prop} (hc : CallR X (.builtin id) rd) (ha : EvB X C k k1 δ a P1) (hm : X.mg x = none) (hv : bootBuiltins x = some (.builtin id)) (hr : ∀ d1, P1 d1 → ∃ d, P d ∧ ∀ (M : List Addr) (H : Hp) (v : V) (Q : VK), Trk M H → Rp (hid M H) v d1 → (∀ v H', Same H H' → Rp (hid M H') v d → Q v H') → rd [v] H Q)
    (hg : Gl X x := by rfl) (hn : x ≠ "__name__" := by decide) (hdb : (x == ("__debug__" : Str)) = false := by decide) (he : starEach [a] X.env = (false, eval a X.env) :: starEach [] X.env := by rfl) : EvB X C k k1 δ (.Call (.Name x p) [a] [] pos) P :=
  EvB.mk (pe_callB hc hg hm hv (pa_cons ha pa_nil he) hn hdb he) fun M σ H Q ok q => ⟨M, ok, fun v H1 d1 sm ok1 s p1 r => by
    obtain ⟨d, pd, h⟩ := hr d1 p1
    exact h M H1 v _ ok1.trk r fun w H2 s2 rw sm2 => q w H2 d sm2 (ok1.mono s2) (s.trans (.of ok1 s2)) pd rw⟩
theorem evb_c1T {x : Str} {T : String} {rd : List V → Hp → VK → Prop} (hc : CallR X (.type T) rd) (ha : EvB X C k k1 δ a P1) (hm : X.mg x = none) (hv : bootBuiltins x = some (.type T)) (hr : ∀ d1, P1 d1 → ∃ d, P d ∧ ∀ (M : List Addr) (H : Hp) (v : V) (Q : VK), Trk M H → Rp (hid M H) v d1 → (∀ v H', Same H H' → Rp (hid M H') v d → Q v H') → rd [v] H Q)
    (hg : Gl X x := by rfl) (hn : x ≠ "__name__" := by decide) (hdb : (x == ("__debug__" : Str)) = false := by decide) (he : starEach [a] X.env = (false, eval a X.env) :: starEach [] X.env := by rfl) : EvB X C k k1 δ (.Call (.Name x p) [a] [] pos) P :=
  EvB.mk (pe_callTy hc hg hm hv (pa_cons ha pa_nil he) hn hdb he) fun M σ H Q ok q => ⟨M, ok, fun v H1 d1 sm ok1 s p1 r => by
    obtain ⟨d, pd, h⟩ := hr d1 p1
    exact h M H1 v _ ok1.trk r fun w H2 s2 rw sm2 => q w H2 d sm2 (ok1.mono s2) (s.trans (.of ok1 s2)) pd rw⟩
/-! ### defs that draw -/
def spB (n K : Nat) (Dm : List PyData → Prop) (S : List PyData → PyData → Prop) : Sp := fun vs H Q _ => vs.length = n + 1 ∧ ∃ M b ws ds k, vs = .ref b :: ws ∧ Trk M H ∧ b ∈ M ∧ BoxAt H b (Bud (k + K)) ∧ Rps (hid M H) ws ds ∧ Dm ds ∧
  ∀ v H' r, S ds r → SameX b H H' → BoxAt H' b (Bud k) → Rp (hid M H') v r → Q v H'
theorem evb_call {n j lv K : Nat} {x y : Str} {Dm : List PyData → Prop} {S : List PyData → PyData → Prop} {py : Pos} (cl : Cal X.prog X.w X.K X.mg X.base lv x (spB n K Dm S) []) (hr : Room j X.A) (ha : EaB X C k (k1 + K) δ es PS) (hD : ∀ ds, PS ds → ds.length = n ∧ Dm ds) (hk : lv ≤ j := by decide) (hg : Gl X x := by rfl)
    (hN : X.N[0]? = some y := by rfl) (hv : Vis X.env.scope y := by first | exact Or.inl rfl | exact Or.inr (Or.inl rfl) | exact Or.inr (Or.inr rfl)) (hd : (y == ("__debug__" : Str)) = false := by decide) (hcd : (y == ("__classdict__" : Str)) = false := by decide)
    (hdb : (x == ("__debug__" : Str)) = false := by decide) (he : starEach (.Name y py :: es) X.env = (false, eval (.Name y py) X.env) :: starEach es X.env := by rfl) (hpl : (backTo pos (starEach es X.env)).any (·.1) = false := by rfl) :
    EvB X C k k1 δ (.Call (.Name x p) (.Name y py :: es) [] pos) (fun r => ∃ ds, PS ds ∧ S ds r) :=
  EvB.mk (pe_c cl hr hk hg (pa_cons (pe_var hN hv hd hcd) ha he) hdb he hpl) fun M σ H Q ok q => by
    obtain ⟨b, hb, bM, bB, _⟩ := ok.box
    refine ⟨.ref b, hb, M, ok, fun vs H1 rs sm ok1 s ps rv => ?_⟩
    obtain ⟨b', hb', _, _, at1⟩ := ok1.box
    rw [hb] at hb'
    cases hb'
    obtain ⟨hl, hD⟩ := hD rs ps
    refine ⟨by rw [List.append_nil, List.length_cons, rv.length, hl], M, b, vs, rs, k1, by rw [List.append_nil], ok1.trk, bM, at1, rv, hD, fun v H2 r hS sx at2 rv2 sm2 => q v H2 r sm2 (ok1.boxed hb sx at2 bM bB) (s.trans ⟨sx.hid bM, b, hb, sx⟩) ⟨rs, ps, hS⟩ rv2⟩
/-- what is handed back, and what is left -/
def RtB (C : Cfg) (b : Addr) (k : Nat) (d : PyData) : VK := fun v H' => (∀ a o, a ∉ C.B → C.H0 a = some o → H' a = some o) ∧ BoxAt H' b (Bud k) ∧ Rp (hid C.M0 H') v d
abbrev RtBs (C : Cfg) (b : Addr) (k : Nat) (P : PyData → Prop) : VK := fun v H' => ∃ r, P r ∧ RtB C b k r v H'
theorem hsb_ret {R : Ass} {B0 : Addr} (he : EvB X C k k1 δ e P) (hB : C.B = [B0]) : Hs X (Kn C (bx k δ)) (.Return (some e) pos) R (RtBs C B0 k1 P) :=
  (ps_ret he).imp fun D σ H ⟨⟨M, ok⟩, _, q⟩ => ⟨M, ok, fun v H' r sm ok' s p rv => q v H' ⟨r, p, ok'.fr, by
    obtain ⟨b, _, _, bB, at1⟩ := ok'.box
    rw [hB, List.mem_singleton] at bB
    rw [← bB]
    exact at1, rv.mono (hid_sub ok'.sub)⟩⟩
end
section
variable {P : Program} {w : World} {K : PySem.W.Frag} {mg : Str → Option Value} {base : Heap}
theorem ok_startB {K : PySem.W.Frag} {M : List Addr} {H : Hp} {N : List Str} {vs : List V} {ds : List PyData} {b : Addr} {Pb : Int → Int → Int → Prop} (t : Trk M H) (r : Rps (hid M H) vs ds) (bM : b ∈ M) (hb : BoxAt H b Pb) : OkM ⟨K, H, M, [b], []⟩ M (some (.box Pb) :: dl N ds) (L2.start (N0 :: N) (.ref b :: vs)) H := by
  have ok := ok_start (K := K) (N := N) t r
  have e0 : L2.start (N0 :: N) (.ref b :: vs) = some (.ref b) :: L2.start N vs := by
    unfold L2.start
    simp
  rw [e0]
  refine ⟨fun a o _ h => h, t, fun m hm => by rw [List.mem_singleton.mp hm]; exact bM, fun _ h => h, t, fun p hp => by simp at hp, ?_, fun i e h => ?_, fun i j e e' v h1 h2 h3 h4 h5 h6 => ?_⟩
  · exact Nat.succ_le_succ ok.len
  · cases i with
    | zero =>
      have e : e = .box Pb := by simpa using h.symm
      subst e
      exact ⟨.ref b, rfl, b, rfl, bM, List.mem_singleton.mpr rfl, hb⟩
    | succ i =>
      obtain ⟨v, h1, h2⟩ := ok.val i e (by simpa using h)
      refine ⟨v, h1, ?_⟩
      cases e with
      | dat d => exact h2
      | own ds => exact h2
      | tbl ks0 ds => exact h2
      | dct L => exact h2
      | box Q => obtain ⟨b', _, _, z, _⟩ := h2; simp at z
      | scr ns => exact h2
  · have nd : ∀ (i : Nat) e, (dl N ds)[i]? = some (some e) → isOwn e = false := fun i e h => by
      unfold dl at h
      by_cases hi : i < ds.length
      · rw [List.getElem?_append_left (by rw [List.length_map]; exact hi), List.getElem?_map] at h
        cases q : ds[i]? with
        | none => rw [q] at h; cases h
        | some d => rw [q] at h; cases h; rfl
      · rw [List.getElem?_append_right (by rw [List.length_map]; omega), List.getElem?_replicate] at h
        split at h <;> cases h
    cases i with
    | zero =>
      cases j with
      | zero => rfl
      | succ j => rw [nd j e' (by simpa using h2)] at h4; cases h4
    | succ i => rw [nd i e (by simpa using h1)] at h3; cases h3
/-- THE RULE for a def that draws -/
theorem cal_ofB {x N0 : Str} {st : Stmt} {N ps : List Str} {k n Kc : Nat} {Dm : List PyData → Prop} {S : List PyData → PyData → Prop} (F : Df K mg x ps st) (sc : FnScope (N0 :: N) ps (defScope st)) (hn : ps.length = n + 1)
    (hbody : ∀ (f : Addr) (cdv : Value) (A : Around) (outer : List Env) (s : Shared) (H : Hp) (E : XK) (M : List Addr) (b : Addr) (m : Nat), Room k (A.deeper (envOfC x (defScope st) s.heap.objs.size f cdv)) → ∀ ds, ds.length = n → Dm ds →
      Ho (cxOf CX0 P w K mg base (N0 :: N) x (defScope st) f cdv A outer s H E).nox (Kn ⟨K, H, M, [b], []⟩ (bx (m + Kc) (dl N ds))) (defBody st) No (RtBs ⟨K, H, M, [b], []⟩ b m (S ds))) : Cal P w K mg base (k + 1) x (spB n Kc Dm S) [] := by
  obtain ⟨f, fd, Ff, hm, hb⟩ := F.ex
  refine ⟨f, fd, ps, [], Ff.ok sc (fun vs H Q E h => h.1.trans hn.symm) (fun cdv A outer s H vs Q E hr h => ?_), hm, Ff.kp, hb, .nil⟩
  obtain ⟨hl, M, b, ws, ds, m, rfl, t, bM, hbx, rs, hD, q⟩ := h
  have hd : ds.length = n := by rw [← rs.length]; simpa using hl
  refine ⟨_, hbody f cdv A outer s H E M b m hr ds hd hD, ⟨M, ok_startB t rs bM hbx⟩, fun σ' H' z => z.elim, fun v H' ⟨r, hS, z1, z2, z3⟩ => q v H' r hS (fun a o ne h => z1 a o (by simpa using ne) h) z2 z3⟩
end
end Kl
/-! W1: the package's defs, walked: sets, nets. -/
namespace Kl
open PySem PySem.Spec PyProof.Rows L2
open C8 (Cal pe_c)
def topS (i : Nat) : Stmt := PySem.Challenge.pw_keyedlines_k77_whole_groups_by_openers_a.main.body.getD i (.Pass ⟨0, 0, 0, 0⟩)
def blts : List Str := ["tuple", "list", "sorted", "set", "sum", "all", "any", "len", "zip", "enumerate", "range", "min", "max", "abs", "int", "isinstance", "dict", "bool", "str"]
structure Mg (mg : Str → Option Value) : Prop where
  no : ∀ x ∈ blts, mg x = none
  wide : ∃ t, mg "WIDE" = some (.int 5 t)
  name : ∃ t, mg "NAME" = some (.int 0 t)
  supply : ∃ t, mg "SUPPLY" = some (.int 1 t)
  yard : ∃ t, mg "YARD" = some (.int 1 t)
  start : ∃ t, mg "START" = some (.int 1 t)
  goal : ∃ t, mg "GOAL" = some (.int 2 t)
  most : ∃ t, mg "MOST" = some (.int 3 t)
  key : ∃ t, mg "KEY" = some (.int 4 t)
section
variable {P : Program} {w : World} {K : PySem.W.Frag} {mg : Str → Option Value} {base : Heap}
/-! ### set_of -/
def Ssetof : List PyData → PyData → Prop := fun ds r => (∃ k ks, ds = [sqD k (ks.map .str)] ∧ ks.length < 64 ∧ r = eK (setT ks)) ∨ ∃ k ks, ds = [sqD k (ks.map eK)] ∧ ks.length < 64 ∧ r = eTs (setK ks)
theorem sc4 : FnScope ["some"] ["some"] (defScope (topS 4)) := ⟨rfl, rfl, rfl, by decide +kernel, rfl, by decide +kernel, by decide +kernel⟩
theorem Ev.sq {X : Cx} {C : Cfg} {δ : Dl} {e : Expr} {ds : List PyData} {k : Bool} (h : Ev X C δ e (sqD k ds)) : EvS X C δ e ds := by
  cases k
  · exact h.seqL
  · exact h.seqT
theorem c_setof (G : Mg mg) (F : Df K mg "set_of" ["some"] (topS 4)) : Cal P w K mg base 1 "set_of" (spR 1 Ssetof) [] := by
  refine cal_of F sc4 rfl fun f cdv A outer s H E M hr ds r hS => ?_
  have g1 := G.no "tuple" (by decide)
  have g2 := G.no "sorted" (by decide)
  have g3 := G.no "set" (by decide)
  rcases hS with ⟨k, ks, rfl, few, rfl⟩ | ⟨k, ks, rfl, few, rfl⟩
  · exact ho_no (ho_one (hs_ret (ev_tupL g1 (ef_setTx hr g2 g3 (nv 0).sq few).ev)))
  · exact ho_no (ho_one (hs_ret (ev_tupL g1 (ef_setTu hr g2 g3 (nv 0).sq few).ev)))
/-! ### tupled -/
theorem kb_sl : kitB "str" "list" = some false := by decide +kernel
theorem kb_st : kitB "str" "tuple" = some false := by decide +kernel
theorem kb_tl : kitB "tuple" "list" = some false := by decide +kernel
theorem kb_tt : kitB "tuple" "tuple" = some true := by decide +kernel
theorem kb_ll : kitB "list" "list" = some true := by decide +kernel
theorem kb_lt : kitB "list" "tuple" = some false := by decide +kernel
def Stup0 : List PyData → PyData → Prop := fun ds r => ∃ x, ds = [.str x] ∧ r = .str x
def Stup1 : List PyData → PyData → Prop := fun ds r => ∃ k, ds = [eK k] ∧ r = eK k
def Stup2 : List PyData → PyData → Prop := fun ds r => ∃ l, ds = [eLs l] ∧ r = eTs l
theorem sc5 : FnScope ["value", "part"] ["value"] (defScope (topS 5)) := ⟨rfl, rfl, rfl, by decide +kernel, rfl, by decide +kernel, by decide +kernel⟩
theorem c_tup0 (G : Mg mg) (F : Df K mg "tupled" ["value"] (topS 5)) : Cal P w K mg base 1 "tupled" (spR 1 Stup0) [] := by
  refine cal_of F sc5 rfl fun f cdv A outer s H E M hr ds r hS => ?_
  obtain ⟨x, rfl, rfl⟩ := hS
  exact ho_no (ho_one (hs_ret (ev_if (et_v (ev_isi2 (d := .str x) (T1 := "list") (T2 := "tuple") (k1 := false) (k2 := false) (G.no "isinstance" (by decide)) (G.no "list" (by decide)) (G.no "tuple" (by decide)) (by decide +kernel) (by decide +kernel) (nv 0) rfl kb_sl kb_st)) (fun z => nomatch z) fun _ => nv 0)))
theorem c_tup1 (G : Mg mg) (F : Df K mg "tupled" ["value"] (topS 5)) (C0 : Cal P w K mg base 1 "tupled" (spR 1 Stup0) []) : Cal P w K mg base 2 "tupled" (spR 1 Stup1) [] := by
  refine cal_of F sc5 rfl fun f cdv A outer s H E M hr ds r hS => ?_
  obtain ⟨k, rfl, rfl⟩ := hS
  refine ho_no (ho_one (hs_ret (ev_if (et_v (ev_isi2 (d := eK k) (T1 := "list") (T2 := "tuple") (k1 := false) (k2 := true) (G.no "isinstance" (by decide)) (G.no "list" (by decide)) (G.no "tuple" (by decide)) (by decide +kernel) (by decide +kernel) (nv 0) rfl kb_tl kb_tt)) (fun _ => ?_) fun z => nomatch z)))
  exact ev_tupL (G.no "tuple" (by decide)) (ef_1 (xs := k) (en := .str) (f := .str) 1 sc5.nd (ei_T (nv 0)) (fun _ _ _ _ _ x _ => ev_call C0 hr (ea_cons (nv 1) ea_nil) ⟨x, rfl, rfl⟩)).ev
theorem c_tup2 (G : Mg mg) (F : Df K mg "tupled" ["value"] (topS 5)) (C1 : Cal P w K mg base 2 "tupled" (spR 1 Stup1) []) : Cal P w K mg base 3 "tupled" (spR 1 Stup2) [] := by
  refine cal_of F sc5 rfl fun f cdv A outer s H E M hr ds r hS => ?_
  obtain ⟨l, rfl, rfl⟩ := hS
  refine ho_no (ho_one (hs_ret (ev_if (et_v (ev_isi2 (d := eLs l) (T1 := "list") (T2 := "tuple") (k1 := true) (k2 := false) (G.no "isinstance" (by decide)) (G.no "list" (by decide)) (G.no "tuple" (by decide)) (by decide +kernel) (by decide +kernel) (nv 0) rfl kb_ll kb_lt)) (fun _ => ?_) fun z => nomatch z)))
  exact ev_tupL (G.no "tuple" (by decide)) (ef_1 (xs := l) (en := eK) (f := eK) 1 sc5.nd (ei_L (nv 0)) (fun _ _ _ _ _ x _ => ev_call C1 hr (ea_cons (nv 1) ea_nil) ⟨x, rfl, rfl⟩)).ev
/-! ### yard_names, keys_of, subsets_of -/
def SyardN : List PyData → PyData → Prop := fun ds r => ∃ n, ds = [eN n] ∧ r = eK (yards n)
def SkeysOf : List PyData → PyData → Prop := fun ds r => ∃ n, ds = [eN n] ∧ n.ls.length < 64 ∧ r = eK (keysOf n)
def Ssubs : List PyData → PyData → Prop := fun ds r => ∃ k names, ds = [sqD k (names.map .str)] ∧ names.length ≤ 8 ∧ r = eLs (subs names)
theorem sc8 : FnScope ["net", "own"] ["net"] (defScope (topS 8)) := ⟨rfl, rfl, rfl, by decide +kernel, rfl, by decide +kernel, by decide +kernel⟩
theorem sc9 : FnScope ["net", "own"] ["net"] (defScope (topS 9)) := ⟨rfl, rfl, rfl, by decide +kernel, rfl, by decide +kernel, by decide +kernel⟩
theorem sc18 : FnScope ["names", "found", "name", "some"] ["names"] (defScope (topS 18)) := ⟨rfl, rfl, rfl, by decide +kernel, rfl, by decide +kernel, by decide +kernel⟩
theorem c_yardN (G : Mg mg) (F : Df K mg "yard_names" ["net"] (topS 8)) : Cal P w K mg base 1 "yard_names" (spR 1 SyardN) [] := by
  refine cal_of F sc8 rfl fun f cdv A outer s H E M hr ds r hS => ?_
  obtain ⟨n, rfl, rfl⟩ := hS
  refine ho_no (ho_one (hs_ret (Ev.cast (ev_tupL (G.no "tuple" (by decide)) (ef_1 (xs := n.ys) (en := eY) 1 sc8.nd (ei_T (ev_ixT (nv 0) ev_int)) (fun _ _ _ _ _ x _ => ev_ixT (nv 1) ev_int)).ev) ?_)))
  simp [eK, yards]
theorem c_keysOf (G : Mg mg) (F : Df K mg "keys_of" ["net"] (topS 9)) (C1 : Cal P w K mg base 1 "set_of" (spR 1 Ssetof) []) : Cal P w K mg base 2 "keys_of" (spR 1 SkeysOf) [] := by
  refine cal_of F sc9 rfl fun f cdv A outer s H E M hr ds r hS => ?_
  obtain ⟨n, rfl, few, rfl⟩ := hS
  refine ho_no (ho_one (hs_ret (ev_call C1 hr (ea_cons ?_ ea_nil) (.inl ⟨false, n.ls.map keyL, rfl, by rw [List.length_map]; exact few, rfl⟩))))
  refine Ev.cast (ef_1 (xs := n.ls) (en := eL) (f := fun l => .str (keyL l)) 1 sc9.nd (ei_T (ev_ixT (nv 0) ev_int)) (fun _ _ _ _ _ x _ => ?_)).ev ?_
  · exact ev_ixT (nv 1) (ev_sub (ev_gi rfl G.wide) ev_int)
  · show PyData.list _ = PyData.list _
    rw [List.map_map]
    rfl
theorem ei_sq {X : Cx} {C : Cfg} {δ : Dl} {tg e : Expr} {ds : List PyData} {k st : Bool} (h : Ev X C δ e (sqD k ds)) : EvI st X C δ tg e ds := by
  cases k
  · exact ei_L h
  · exact ei_T h
theorem allSubs_next {names : List Str} {k : Nat} {x : Str} (h : names[k]? = some x) : allSubs (names.take (k + 1)) = allSubs (names.take k) ++ (allSubs (names.take k)).map fun s => s ++ [x] := by
  have e : names.take (k + 1) = names.take k ++ [x] := by rw [List.take_add_one, h]; rfl
  unfold allSubs
  rw [e, List.foldl_append]
  rfl
theorem sub_len {names k : List Str} (h : k ∈ allSubs names) : k.length ≤ names.length := (mem_subs.mp (mem_srt.mpr h)).length_le
theorem two_pow {n : Nat} (h : n ≤ 8) : 2 ^ n ≤ 256 := Nat.pow_le_pow_right (by decide) h
theorem big {n : Nat} (h : n ≤ 4000) : n ≤ sizeLine := by rw [sizeLine_eq]; omega
theorem c_subs (G : Mg mg) (F : Df K mg "subsets_of" ["names"] (topS 18)) : Cal P w K mg base 1 "subsets_of" (spR 1 Ssubs) [] := by
  refine cal_of F sc18 rfl fun f cdv A outer s H E M hr ds r hS => ?_
  obtain ⟨k, names, rfl, few, rfl⟩ := hS
  have lens : ∀ k, k ≤ names.length → (allSubs (names.take k)).length ≤ 256 := fun k hk => by
    rw [len_allSubs, List.length_take, Nat.min_eq_left hk]
    exact two_pow (by omega)
  refine ho_no (ho_cons (hs_setF (ds := [eK []]) 1 sc18.nd (ef_lst (ea_cons (ev_tup ea_nil) ea_nil))) ?_)
  refine ho_cons (hs_for (xs := names) (en := .str) (is := [2]) (δx := fun k' (_ : Unit) x => [some (.dat (sqD k (names.map .str))), some (.own ((allSubs (names.take k')).map eK)), some (.dat (.str x)), none])
    (fun k' (_ : Unit) => [some (.dat (sqD k (names.map .str))), some (.own ((allSubs (names.take k')).map eK)), none, none]) (fun _ _ => True) () rfl PassesOwn.never trivial (Les.refl _) (ei_sq (nv 0)) (fun ps k' g x hx _ => gn 2 sc18.nd) (fun ps k' g x hx _ => ?_)) ?_
  · have hk : k' < names.length := (List.getElem?_eq_some_iff.mp hx).1
    have l1 := lens k' (Nat.le_of_lt hk)
    refine ho_post (ho_one (hs_setF 1 sc18.nd (ef_cat (nl 1) (ef_1 (xs := allSubs (names.take k')) (en := eK) (f := fun s => eK (s ++ [x])) 3 sc18.nd (ei_seq (nl 1).seq) (fun _ _ _ _ _ y hy => ?_)).lst ?_))) fun σ' H' h => ⟨(), trivial, ?_⟩
    · refine Ev.cast (ev_tup (ea_star (nv 3).seqT (ea_cons (nv 2) ea_nil)) ?_) ?_
      · have := sub_len hy
        rw [List.length_take] at this
        refine big ?_
        rw [List.length_append, List.length_map]
        show y.length + 1 ≤ 4000
        omega
      · show PyData.tuple _ = PyData.tuple _
        rw [List.map_append]
        rfl
    · rw [List.length_map, List.length_map]
      exact big (by omega)
    · rw [allSubs_next hx, List.map_append, List.map_map]
      exact Kn.les (.keep (.keep (.skip (.refl _)))) _ _ h
  · refine ho_ex fun _ => ho_and fun _ => ?_
    rw [List.take_length]
    refine ho_one (hs_ret (Ev.cast (ef_sorted hr (G.no "sorted" (by decide)) (nl 1) (srtb_eK _) (lay_eK _)).ev ?_))
    show PyData.list _ = PyData.list _
    rw [sortD_srt inj_eK]
    rfl
end
end Kl
/-! W2: goes. -/
namespace Kl
open PySem PySem.Spec PyProof.Rows L2
open C8 (Cal pe_c)
theorem EvI.cast {st : Bool} {X : Cx} {C : Cfg} {δ : Dl} {tg e : Expr} {ds ds1 : List PyData} (h : EvI st X C δ tg e ds1) (q : ds1 = ds) : EvI st X C δ tg e ds := by rw [← q]; exact h
section
variable {P : Program} {w : World} {K : PySem.W.Frag} {mg : Str → Option Value} {base : Heap}
def SvalOf : List PyData → PyData → Prop := fun ds r => ∃ n keys far, ds = [eN n, eK keys, eK far] ∧ r = .int (valOf n keys far)
theorem sc19 : FnScope ["net", "keys", "far", "lines", "own"] ["net", "keys", "far"] (defScope (topS 19)) := ⟨rfl, rfl, rfl, by decide +kernel, rfl, by decide +kernel, by decide +kernel⟩
theorem c_valOf (G : Mg mg) (F : Df K mg "value_of" ["net", "keys", "far"] (topS 19)) : Cal P w K mg base 1 "value_of" (spR 3 SvalOf) [] := by
  refine cal_of F sc19 rfl fun f cdv A outer s H E M hr ds r hS => ?_
  obtain ⟨n, keys, far, rfl, rfl⟩ := hS
  refine ho_no (ho_cons (hs_1t (xs := n.ls) (en := eL) (pr := fun l => decide (l.2.2.2.2 ∈ keys) && (decide (l.2.2.1 ∈ far) && !decide (l.2.1 ∈ far))) (f := fun l => .int l.2.2.2.1) 3 4 sc19.nd (ei_T (ev_ixT (nv 0) ev_int)) (fun _ _ _ _ _ x _ => EvW.t (ew_and (et_in (ev_ixT (nv 4) (ev_gi rfl G.key)) (nv 1).seqT) fun _ => ew_and (et_in (ev_ixT (nv 4) (ev_gi rfl G.goal)) (nv 2).seqT) fun _ => ew_and1 (et_nin (ev_ixT (nv 4) (ev_gi rfl G.start)) (nv 2).seqT)))
    (fun _ _ _ _ _ x _ _ => ev_ixT (nv 4) (ev_gi rfl G.most))) ?_)
  refine ho_freeze 3 rfl ?_
  refine ho_one (hs_ret (ev_add (ev_sum (ns := (n.ys.filter fun y => decide (y.1 ∈ far)).map fun y => y.2) (G.no "sum" (by decide)) rfl ?_) (ev_sum (ns := (n.ls.filter fun l => decide (l.2.2.2.2 ∈ keys) && (decide (l.2.2.1 ∈ far) && !decide (l.2.1 ∈ far))).map fun l => l.2.2.2.1) (G.no "sum" (by decide)) rfl ?_)))
  · refine Ev.cast (ef_1t (xs := n.ys) (en := eY) (pr := fun y => decide (y.1 ∈ far)) (f := fun y => .int y.2) 4 sc19.nd (ei_T (ev_ixT (nv 0) ev_int)) (fun _ _ _ _ _ x _ => ?_) (fun _ _ _ _ _ x _ _ => ?_)).ev ?_
    · exact et_in (ev_ixT (nv 4) (ev_gi rfl G.name)) (nv 2).seqT
    · exact ev_ixT (nv 4) (ev_gi rfl G.supply)
    · rw [List.map_map]
      rfl
  · refine Ev.cast (nv 3) ?_
    rw [List.map_map]
    rfl
def valTab (n : Net) (keys : List Str) : List (List Str × V) := (subs (yards n)).map fun far => (far, V.int (valOf n keys far))
def SvalBy : List PyData → PyData → Prop := fun ds r => ∃ n keys, ds = [eN n, eK keys] ∧ (yards n).Nodup ∧ (yards n).length ≤ 8 ∧ r = kdOf (valTab n keys)
theorem sc20 : FnScope ["net", "keys", "far"] ["net", "keys"] (defScope (topS 20)) := ⟨rfl, rfl, rfl, by decide +kernel, rfl, by decide +kernel, by decide +kernel⟩
theorem c_valBy (G : Mg mg) (F : Df K mg "values_by" ["net", "keys"] (topS 20)) (C1 : Cal P w K mg base 1 "value_of" (spR 3 SvalOf) []) (C2 : Cal P w K mg base 1 "subsets_of" (spR 1 Ssubs) []) (C3 : Cal P w K mg base 1 "yard_names" (spR 1 SyardN) []) : Cal P w K mg base 2 "values_by" (spR 2 SvalBy) [] := by
  refine cal_of F sc20 rfl fun f cdv A outer s H E M hr ds r hS => ?_
  obtain ⟨n, keys, rfl, nd, few, rfl⟩ := hS
  refine ho_no (ho_one (hs_ret (ev_dc (xs := subs (yards n)) (en := eK) (key := fun k => k) (val := fun far => V.int (valOf n keys far)) 2 sc20.nd hr (ei_L (ds := (subs (yards n)).map eK) ?_) (by rw [List.map_id']; exact nd_subs nd) (fun _ _ => rfl) (fun _ _ _ _ _ x _ => nv 2) (fun _ _ _ _ _ x _ => ?_))))
  · exact ev_call C2 hr (ea_cons (ev_call C3 hr (ea_cons (nv 0) ea_nil) ⟨n, rfl, rfl⟩) ea_nil) ⟨true, yards n, rfl, few, rfl⟩
  · exact ev_call C1 hr (ea_cons (nv 0) (ea_cons (nv 1) (ea_cons (nv 2) ea_nil))) ⟨n, keys, x, rfl, rfl⟩
def SpartIn : List PyData → PyData → Prop := fun ds r => ∃ n lot far, ds = [eN n, eLot lot, eK far] ∧ r = .int (partIn n lot far)
theorem sc21 : FnScope ["net", "lot", "far", "own", "part"] ["net", "lot", "far"] (defScope (topS 21)) := ⟨rfl, rfl, rfl, by decide +kernel, rfl, by decide +kernel, by decide +kernel⟩
theorem zip_maps {α β : Type} (f : α → PyData) (g : β → PyData) : ∀ (as : List α) (bs : List β), ((as.map f).zip (bs.map g)).map (fun p => PyData.tuple [p.1, p.2]) = (as.zip bs).map fun p => .tuple [f p.1, g p.2]
  | [], _ => by simp
  | _ :: _, [] => by simp
  | a :: as, b :: bs => by simp [zip_maps f g as bs]
theorem c_partIn (G : Mg mg) (F : Df K mg "part_in" ["net", "lot", "far"] (topS 21)) : Cal P w K mg base 1 "part_in" (spR 3 SpartIn) [] := by
  refine cal_of F sc21 rfl fun f cdv A outer s H E M hr ds r hS => ?_
  obtain ⟨n, lot, far, rfl, rfl⟩ := hS
  refine ho_no (ho_one (hs_ret (ev_sum (ns := ((n.cs.zip lot).filter fun p => decide (p.1.2 ∈ far)).map fun p => p.2) (G.no "sum" (by decide)) rfl ?_)))
  refine Ev.cast (ef_2t (xs := n.cs.zip lot) (e1 := fun p => eC p.1) (e2 := fun p => .int p.2) (pr := fun p => decide (p.1.2 ∈ far)) (f := fun p => .int p.2) 3 4 sc21.nd ?_ (fun _ _ _ _ _ x _ => ?_) (fun _ _ _ _ _ x _ _ => ?_)).ev ?_
  · rw [← zip_maps]
    exact ei_zip true true (G.no "zip" (by decide)) (ev_ixT (nv 0) ev_int) (nv 1)
  · exact et_in (ev_ixT (nv 3) (ev_gi rfl G.yard)) (nv 2).seqT
  · exact nv 4
  · show PyData.list _ = PyData.list _
    rw [List.map_map]
    rfl
def SgoesBy : List PyData → PyData → Prop := fun ds r => ∃ n keys lot, ds = [eN n, kdOf (valTab n keys), eLot lot] ∧ (yards n).length ≤ 8 ∧ r = .bool (goesB n keys lot)
theorem sc22 : FnScope ["net", "values", "lot", "far", "value"] ["net", "values", "lot"] (defScope (topS 22)) := ⟨rfl, rfl, rfl, by decide +kernel, rfl, by decide +kernel, by decide +kernel⟩
theorem c_goesBy (G : Mg mg) (F : Df K mg "goes_by" ["net", "values", "lot"] (topS 22)) (C1 : Cal P w K mg base 1 "part_in" (spR 3 SpartIn) []) : Cal P w K mg base 2 "goes_by" (spR 3 SgoesBy) [] := by
  refine cal_of F sc22 rfl fun f cdv A outer s H E M hr ds r hS => ?_
  obtain ⟨n, keys, lot, rfl, few, rfl⟩ := hS
  have sc : Scal (valTab n keys) := fun p hp => by
    obtain ⟨x, _, rfl⟩ := List.mem_map.mp hp
    rfl
  refine ho_no (ho_one (hs_ret (Ev.cast (ev_all (bs := (subs (yards n)).map fun far => decide (partIn n lot far ≤ valOf n keys far)) (G.no "all" (by decide)) rfl ?_) ?_)))
  · refine Ev.cast (ef_2 (xs := subs (yards n)) (e1 := eK) (e2 := fun far => .int (valOf n keys far)) (f := fun far => .bool (decide (partIn n lot far ≤ valOf n keys far))) 3 4 sc22.nd ?_ (fun _ _ _ _ _ x _ => ?_)).ev ?_
    · refine EvI.cast (ei_pairs (nv 1) sc (by unfold valTab; rw [List.length_map, len_subs]; exact big (Nat.le_trans (two_pow few) (by decide)))) ?_
      unfold valTab
      rw [List.map_map]
      rfl
    · exact ev_le (ev_call C1 hr (ea_cons (nv 0) (ea_cons (nv 2) (ea_cons (nv 3) ea_nil))) ⟨n, lot, x, rfl, rfl⟩) (nv 4)
    · show PyData.list _ = PyData.list _
      rw [List.map_map]
      rfl
  · rw [List.all_map]
    rfl
end
end Kl
/-! W3: people. -/
namespace Kl
open PySem PySem.Spec PyProof.Rows L2
open C8 (Cal pe_c)
structure WfN (n : Net) : Prop where
  nd : (yards n).Nodup
  yl : (yards n).length ≤ 8
  ll : n.ls.length ≤ 5
  kok : ∀ l ∈ n.ls, PyData.strOk (keyL l) = true
structure WfC (c : Crew) : Prop where
  nd : (people c).Nodup
  cl : c.length ≤ 5
  up : (people c).Pairwise (fun a b => leD (.str a) (.str b) = true)
  ok : ∀ p ∈ c, PyData.strOk p.1 = true
  kl : ∀ p ∈ c, p.2.length ≤ 8
theorem hs_post {X : Cx} {Pre R R' : Ass} {Φ : VK} {st : Stmt} (h : Hs X Pre st R Φ) (i : ∀ σ H, R σ H → R' σ H) : Hs X Pre st R' Φ := h.imp fun D σ H q => ⟨q.1, fun σ' H' m => q.2.1 σ' H' (i σ' H' m), q.2.2⟩
section
variable {P : Program} {w : World} {K : PySem.W.Frag} {mg : Str → Option Value} {base : Heap}
def Sgoes : List PyData → PyData → Prop := fun ds r => ∃ n keys lot, ds = [eN n, eK keys, eLot lot] ∧ WfN n ∧ r = .bool (goesB n keys lot)
theorem sc23 : FnScope ["net", "keys", "lot"] ["net", "keys", "lot"] (defScope (topS 23)) := ⟨rfl, rfl, rfl, by decide +kernel, rfl, by decide +kernel, by decide +kernel⟩
theorem c_goes (F : Df K mg "goes" ["net", "keys", "lot"] (topS 23)) (C1 : Cal P w K mg base 2 "goes_by" (spR 3 SgoesBy) []) (C2 : Cal P w K mg base 2 "values_by" (spR 2 SvalBy) []) : Cal P w K mg base 3 "goes" (spR 3 Sgoes) [] := by
  refine cal_of F sc23 rfl fun f cdv A outer s H E M hr ds r hS => ?_
  obtain ⟨n, keys, lot, rfl, W, rfl⟩ := hS
  exact ho_no (ho_one (hs_ret (ev_call C1 hr (ea_cons (nv 0) (ea_cons (ev_call C2 hr (ea_cons (nv 0) (ea_cons (nv 1) ea_nil)) ⟨n, keys, rfl, W.nd, W.yl, rfl⟩) (ea_cons (nv 2) ea_nil))) ⟨n, keys, lot, rfl, W.yl, rfl⟩)))
def SpeopleIn : List PyData → PyData → Prop := fun ds r => ∃ c, ds = [eCr c] ∧ r = eK (people c)
theorem sc25 : FnScope ["holders", "person", "keys"] ["holders"] (defScope (topS 25)) := ⟨rfl, rfl, rfl, by decide +kernel, rfl, by decide +kernel, by decide +kernel⟩
theorem c_peopleIn (G : Mg mg) (F : Df K mg "people_in" ["holders"] (topS 25)) : Cal P w K mg base 1 "people_in" (spR 1 SpeopleIn) [] := by
  refine cal_of F sc25 rfl fun f cdv A outer s H E M hr ds r hS => ?_
  obtain ⟨c, rfl, rfl⟩ := hS
  refine ho_no (ho_one (hs_ret (Ev.cast (ev_tupL (G.no "tuple" (by decide)) (ef_2 (xs := c) (e1 := fun p => .str p.1) (e2 := fun p => eK p.2) (f := fun p => .str p.1) 1 2 sc25.nd (ei_T (nv 0)) (fun _ _ _ _ _ x _ => nv 1)).ev) ?_)))
  simp [eK, people]
def Scheck : List PyData → PyData → Prop := fun ds r => ∃ (c : Crew) (k : Bool) (names : List Str), ds = [eCr c, sqD k (names.map .str)] ∧ (∀ x ∈ names, x ∈ people c) ∧ r = .none
theorem sc26 : FnScope ["holders", "names", "name"] ["holders", "names"] (defScope (topS 26)) := ⟨rfl, rfl, rfl, by decide +kernel, rfl, by decide +kernel, by decide +kernel⟩
theorem c_check (F : Df K mg "check_people" ["holders", "names"] (topS 26)) (C1 : Cal P w K mg base 1 "people_in" (spR 1 SpeopleIn) []) : Cal P w K mg base 2 "check_people" (spR 2 Scheck) [] := by
  refine cal_of F sc26 rfl fun f cdv A outer s H E M hr ds r hS => ?_
  obtain ⟨c, k, names, rfl, sub, rfl⟩ := hS
  refine ho_one (hs_post (hs_for (xs := names) (en := .str) (is := [2]) (δx := fun _ (_ : Unit) x => [some (.dat (eCr c)), some (.dat (sqD k (names.map .str))), some (.dat (.str x))])
    (fun _ (_ : Unit) => [some (.dat (eCr c)), some (.dat (sqD k (names.map .str))), none]) (fun _ _ => True) () rfl PassesOwn.never trivial (Les.refl _) (ei_sq (nv 1)) (fun ps k' g x hx _ => gn 2 sc26.nd) (fun ps k' g x hx _ => ?_)) fun σ H' ⟨_, _, h⟩ => rt_none h)
  refine ho_one (hs_if (k := false) (EvT.cast (et_nin (ss := people c) (nv 2) (Ev.seqT (ev_call C1 hr (ea_cons (nv 0) ea_nil) ⟨c, rfl, rfl⟩))) ?_) (fun z => nomatch z) fun _ => ho_nil fun σ' H' h => ⟨(), trivial, Kn.les (.keep (.keep (.skip (.refl _)))) _ _ h⟩)
  simp [sub x (List.mem_of_getElem? hx)]
def SheldBy : List PyData → PyData → Prop := fun ds r => ∃ (c : Crew) (g : List Str), ds = [eCr c, eK g] ∧ WfC c ∧ r = eK (heldBy c g)
theorem sc27 : FnScope ["holders", "group", "person", "keys", "key"] ["holders", "group"] (defScope (topS 27)) := ⟨rfl, rfl, rfl, by decide +kernel, rfl, by decide +kernel, by decide +kernel⟩
theorem flat_len {c : Crew} (h : ∀ p ∈ c, p.2.length ≤ 8) : (c.flatMap fun p => p.2).length ≤ c.length * 8 := by
  induction c with
  | nil => simp
  | cons p r ih =>
    rw [List.flatMap_cons, List.length_append, List.length_cons]
    have h1 := h p List.mem_cons_self
    have h2 := ih fun q hq => h q (List.mem_cons_of_mem _ hq)
    omega
theorem held_few {c : Crew} (W : WfC c) (g : List Str) : ((c.filter fun p => decide (p.1 ∈ g)).flatMap fun p => p.2).length ≤ 40 := by
  have h1 := flat_len (c := c.filter fun p => decide (p.1 ∈ g)) fun p hp => W.kl p (List.mem_filter.mp hp).1
  have h2 := List.length_filter_le (fun p : Str × List Str => decide (p.1 ∈ g)) c
  have h3 := W.cl
  omega
theorem c_heldBy (F : Df K mg "held_by" ["holders", "group"] (topS 27)) (C1 : Cal P w K mg base 1 "set_of" (spR 1 Ssetof) []) : Cal P w K mg base 2 "held_by" (spR 2 SheldBy) [] := by
  refine cal_of F sc27 rfl fun f cdv A outer s H E M hr ds r hS => ?_
  obtain ⟨c, g, rfl, W, rfl⟩ := hS
  have e0 : rowsF c (fun p => decide (p.1 ∈ g)) (fun p => p.2) (fun _ k => PyData.str k) = ((c.filter fun p => decide (p.1 ∈ g)).flatMap fun p => p.2).map PyData.str := by
    unfold rowsF
    rw [List.map_flatMap]
  have few := held_few W g
  refine ho_no (ho_one (hs_ret (ev_call C1 hr (ea_cons (d := .list (((c.filter fun p => decide (p.1 ∈ g)).flatMap fun p => p.2).map .str)) ?_ ea_nil) (.inl ⟨false, _, rfl, by omega, rfl⟩))))
  refine Ev.cast (ef_lc2 (xs := c) (en := eH) (pr := fun p => decide (p.1 ∈ g)) (ys := fun p => p.2) (em := .str) (f := fun _ k => .str k) (is := [2, 3]) (js := [4])
    (δx := fun p => [some (.dat (eCr c)), some (.dat (eK g)), some (.dat (.str p.1)), some (.dat (eK p.2)), none]) (δy := fun p k => [some (.dat (eCr c)), some (.dat (eK g)), some (.dat (.str p.1)), some (.dat (eK p.2)), some (.dat (.str k))])
    [("person", 2), ("keys", 3), ("key", 4)] [4] rfl sc27.nd (ei_T (nv 0)) (by exact blkOk_by (by kernel_rfl)) (by decide) (by decide) (by decide) (fun _ => rfl) (fun _ => rfl) (fun _ _ => rfl) ?_ (fun s H Cc cl fp x => ?_) (fun s H Cc cl fp x hx => ?_) (fun s H Cc cl fp x hx => ?_) (fun s H Cc cl fp x y => ?_) (fun s H Cc cl fp x y hx hy => ?_)).ev ?_
  · rw [e0, List.length_map]
    exact big (by omega)
  · exact gn2B (i := 2) (j := 3) rfl sc27.nd rfl rfl (by first | exact ⟨Or.inl rfl, Or.inr rfl⟩ | exact ⟨Or.inr rfl, Or.inl rfl⟩) (by first | exact ⟨Or.inl rfl, Or.inr rfl⟩ | exact ⟨Or.inr rfl, Or.inl rfl⟩)
  · exact et_in (nv 2) (nv 1).seqT
  · exact ei_T (nv 3)
  · exact gnB (i := 4) sc27.nd rfl (by first | exact ⟨Or.inl rfl, Or.inr rfl⟩ | exact ⟨Or.inr rfl, Or.inl rfl⟩)
  · exact nv 4
  · rw [e0]
def SkeysHeld : List PyData → PyData → Prop := fun ds r => ∃ (c : Crew) (g : List Str), ds = [eCr c, eK g] ∧ WfC c ∧ (∀ x ∈ g, x ∈ people c) ∧ r = eK (heldBy c g)
theorem sc28 : FnScope ["holders", "group"] ["holders", "group"] (defScope (topS 28)) := ⟨rfl, rfl, rfl, by decide +kernel, rfl, by decide +kernel, by decide +kernel⟩
theorem c_keysHeld (F : Df K mg "keys_held" ["holders", "group"] (topS 28)) (C1 : Cal P w K mg base 2 "check_people" (spR 2 Scheck) []) (C2 : Cal P w K mg base 2 "held_by" (spR 2 SheldBy) []) : Cal P w K mg base 3 "keys_held" (spR 2 SkeysHeld) [] := by
  refine cal_of F sc28 rfl fun f cdv A outer s H E M hr ds r hS => ?_
  obtain ⟨c, g, rfl, W, sub, rfl⟩ := hS
  refine ho_no (ho_cons (hs_expr (ev_call C1 hr (ea_cons (nv 0) (ea_cons (nv 1) ea_nil)) ⟨c, true, g, rfl, sub, rfl⟩)) ?_)
  exact ho_one (hs_ret (ev_call C2 hr (ea_cons (nv 0) (ea_cons (nv 1) ea_nil)) ⟨c, g, rfl, W, rfl⟩))
def Sbut : List PyData → PyData → Prop := fun ds r => ∃ (c : Crew) (g : List Str), ds = [eCr c, eK g] ∧ r = eK (butOf (people c) g)
theorem sc29 : FnScope ["holders", "group", "person"] ["holders", "group"] (defScope (topS 29)) := ⟨rfl, rfl, rfl, by decide +kernel, rfl, by decide +kernel, by decide +kernel⟩
theorem c_but (G : Mg mg) (F : Df K mg "people_but" ["holders", "group"] (topS 29)) (C1 : Cal P w K mg base 1 "people_in" (spR 1 SpeopleIn) []) : Cal P w K mg base 2 "people_but" (spR 2 Sbut) [] := by
  refine cal_of F sc29 rfl fun f cdv A outer s H E M hr ds r hS => ?_
  obtain ⟨c, g, rfl, rfl⟩ := hS
  exact ho_no (ho_one (hs_ret (ev_tupL (G.no "tuple" (by decide)) (ef_1t (xs := people c) (en := .str) (pr := fun x => !decide (x ∈ g)) (f := .str) 2 sc29.nd (ei_T (ev_call C1 hr (ea_cons (nv 0) ea_nil) ⟨c, rfl, rfl⟩)) (fun _ _ _ _ _ x _ => et_nin (nv 2) (nv 1).seqT) (fun _ _ _ _ _ x _ _ => nv 2)).ev)))
def Ssends : List PyData → PyData → Prop := fun ds r => ∃ n c lot g, ds = [eN n, eCr c, eLot lot, eK g] ∧ WfN n ∧ WfC c ∧ (∀ x ∈ g, x ∈ people c) ∧ r = .bool (sendsB n c lot g)
theorem sc30 : FnScope ["net", "holders", "lot", "group"] ["net", "holders", "lot", "group"] (defScope (topS 30)) := ⟨rfl, rfl, rfl, by decide +kernel, rfl, by decide +kernel, by decide +kernel⟩
theorem c_sends (F : Df K mg "sends" ["net", "holders", "lot", "group"] (topS 30)) (C1 : Cal P w K mg base 3 "goes" (spR 3 Sgoes) []) (C2 : Cal P w K mg base 3 "keys_held" (spR 2 SkeysHeld) []) : Cal P w K mg base 4 "sends" (spR 4 Ssends) [] := by
  refine cal_of F sc30 rfl fun f cdv A outer s H E M hr ds r hS => ?_
  obtain ⟨n, c, lot, g, rfl, W, Wc, sub, rfl⟩ := hS
  exact ho_no (ho_one (hs_ret (ev_call C1 hr (ea_cons (nv 0) (ea_cons (ev_call C2 hr (ea_cons (nv 1) (ea_cons (nv 3) ea_nil)) ⟨c, g, rfl, Wc, sub, rfl⟩) (ea_cons (nv 2) ea_nil))) ⟨n, heldBy c g, lot, rfl, W, rfl⟩)))
def stopsB (n : Net) (c : Crew) (lot : List Int) (g : List Str) : Bool := !sendsB n c lot (butOf (people c) g)
def Sstops : List PyData → PyData → Prop := fun ds r => ∃ n c lot g, ds = [eN n, eCr c, eLot lot, eK g] ∧ WfN n ∧ WfC c ∧ (∀ x ∈ g, x ∈ people c) ∧ r = .bool (stopsB n c lot g)
theorem sc31 : FnScope ["net", "holders", "lot", "group"] ["net", "holders", "lot", "group"] (defScope (topS 31)) := ⟨rfl, rfl, rfl, by decide +kernel, rfl, by decide +kernel, by decide +kernel⟩
theorem c_stops (F : Df K mg "stops" ["net", "holders", "lot", "group"] (topS 31)) (C1 : Cal P w K mg base 2 "check_people" (spR 2 Scheck) []) (C2 : Cal P w K mg base 4 "sends" (spR 4 Ssends) []) (C3 : Cal P w K mg base 2 "people_but" (spR 2 Sbut) []) : Cal P w K mg base 5 "stops" (spR 4 Sstops) [] := by
  refine cal_of F sc31 rfl fun f cdv A outer s H E M hr ds r hS => ?_
  obtain ⟨n, c, lot, g, rfl, W, Wc, sub, rfl⟩ := hS
  refine ho_no (ho_cons (hs_expr (ev_call C1 hr (ea_cons (nv 1) (ea_cons (nv 3) ea_nil)) ⟨c, true, g, rfl, sub, rfl⟩)) ?_)
  exact ho_one (hs_ret (ev_not (ev_call C2 hr (ea_cons (nv 0) (ea_cons (nv 1) (ea_cons (nv 2) (ea_cons (ev_call C3 hr (ea_cons (nv 1) (ea_cons (nv 3) ea_nil)) ⟨c, g, rfl, rfl⟩) ea_nil)))) ⟨n, c, lot, butOf (people c) g, rfl, W, Wc, fun x hx => (List.mem_filter.mp hx).1, rfl⟩)))
end
end Kl
/-! W4: the table of groups. -/
namespace Kl
open PySem PySem.Spec PyProof.Rows L2
open C8 (Cal pe_c)
def tabOfG (n : Net) (c : Crew) (lot : List Int) (gs : List (List Str)) : List (List Str × V) := gs.map fun g => (g, V.bl (sendsB n c lot g))
def sendTab (n : Net) (c : Crew) (lot : List Int) : List (List Str × V) := tabOfG n c lot (subs (people c))
/-- what is known of the goes -/
def KnowG (n : Net) (lot : List Int) (k : Nat) (L : List (List Str × V)) : Prop := L.length ≤ k ∧ ∀ q v, valV L q = some v → v = .bl (goesB n q lot)
theorem len_put (L : List (List Str × V)) (k : List Str) (v : V) : (putK L k v).length ≤ L.length + 1 := length_putK L k v
theorem know_put {n : Net} {lot : List Int} {k : Nat} {L : List (List Str × V)} {q : List Str} (h : KnowG n lot k L) : KnowG n lot (k + 1) (putK L q (.bl (goesB n q lot))) := by
  refine ⟨Nat.le_trans (len_put _ _ _) (Nat.succ_le_succ h.1), fun q' v e => ?_⟩
  rw [valV_put] at e
  by_cases c : q' = q
  · rw [if_pos c] at e
    cases e
    rw [c]
  · rw [if_neg c] at e
    exact h.2 q' v e
theorem valV_map {α : Type} (f : List Str → V) : ∀ {l : List (List Str)} {k : List Str}, k ∈ l → valV (l.map fun g => (g, f g)) k = some (f k)
  | [], k, h => by cases h
  | a :: l, k, h => by
    rw [List.map_cons]
    by_cases e : a = k
    · rw [valV_pos (show (a, f a).1 = k from e)]
      show some (f a) = _
      rw [e]
    · rw [valV_neg (show ¬ (a, f a).1 = k from e)]
      exact valV_map (α := α) f ((List.mem_cons.mp h).resolve_left fun z => e z.symm)
section
variable {P : Program} {w : World} {K : PySem.W.Frag} {mg : Str → Option Value} {base : Heap}
def SsendTab : List PyData → PyData → Prop := fun ds r => ∃ n c lot, ds = [eN n, eCr c, eLot lot] ∧ WfN n ∧ WfC c ∧ r = kdOf (sendTab n c lot)
theorem sc32 : FnScope ["net", "holders", "lot", "found", "known", "group", "keys"] ["net", "holders", "lot"] (defScope (topS 32)) := ⟨rfl, rfl, rfl, by decide +kernel, rfl, by decide +kernel, by decide +kernel⟩
theorem subs_few {c : Crew} (W : WfC c) : (subs (people c)).length ≤ 32 := by
  rw [len_subs]
  have h := W.cl
  have e : (people c).length = c.length := List.length_map _
  rw [e]
  exact Nat.pow_le_pow_right (by decide) h
theorem c_sendTab (G : Mg mg) (F : Df K mg "send_table" ["net", "holders", "lot"] (topS 32)) (C1 : Cal P w K mg base 1 "subsets_of" (spR 1 Ssubs) []) (C2 : Cal P w K mg base 1 "people_in" (spR 1 SpeopleIn) []) (C3 : Cal P w K mg base 2 "held_by" (spR 2 SheldBy) []) (C4 : Cal P w K mg base 3 "goes" (spR 3 Sgoes) []) : Cal P w K mg base 4 "send_table" (spR 3 SsendTab) [] := by
  refine cal_of F sc32 rfl fun f cdv A outer s H E M hr ds r hS => ?_
  obtain ⟨n, c, lot, rfl, W, Wc, rfl⟩ := hS
  have few := subs_few Wc
  have nds := nd_subs Wc.nd
  refine ho_no (ho_cons (hs_par 3 4 sc32.nd ee_dict ee_dict) ?_)
  refine ho_cons (hs_for (xs := subs (people c)) (en := eK) (is := [5]) (δx := fun k (L : List (List Str × V)) g => [some (.dat (eN n)), some (.dat (eCr c)), some (.dat (eLot lot)), some (.dct (tabOfG n c lot ((subs (people c)).take k))), some (.dct L), some (.dat (eK g)), none])
    (fun k (L : List (List Str × V)) => [some (.dat (eN n)), some (.dat (eCr c)), some (.dat (eLot lot)), some (.dct (tabOfG n c lot ((subs (people c)).take k))), some (.dct L), none, none]) (fun k L => KnowG n lot k L) [] rfl PassesOwn.never ⟨Nat.le_refl _, fun q v e => by cases e⟩ (Les.refl _)
    (ei_L (ds := (subs (people c)).map eK) (ev_call C1 hr (ea_cons (ev_call C2 hr (ea_cons (nv 1) ea_nil) ⟨c, rfl, rfl⟩) ea_nil) ⟨true, people c, rfl, ?_, rfl⟩)) (fun ps k g x hx _ => gn 5 sc32.nd) (fun ps k L g hx hk => ?_)) ?_
  · have h := Wc.cl
    show ((people c)).length ≤ 8
    rw [show (people c).length = c.length from List.length_map _]
    omega
  · have lt := (List.getElem?_eq_some_iff.mp hx).1
    refine ho_cons (hs_set 6 sc32.nd (ev_call C3 hr (ea_cons (nv 1) (ea_cons (nv 5) ea_nil)) ⟨c, g, rfl, Wc, rfl⟩)) ?_
    refine ho_cons (Mid := fun σ' H' => ∃ L', (KnowG n lot (k + 1) L' ∧ valV L' (heldBy c g) = some (.bl (sendsB n c lot g))) ∧ Kn ((⟨K, H, M, [], []⟩ : Cfg).pin ps) [some (.dat (eN n)), some (.dat (eCr c)), some (.dat (eLot lot)), some (.dct (tabOfG n c lot ((subs (people c)).take k))), some (.dct L'), some (.dat (eK g)), some (.dat (eK (heldBy c g)))] σ' H') (hs_if (et_nind hr (nd 4) (nv 6)) (fun e => ?_) fun e => ?_) ?_
    · refine ho_post (ho_one (hs_put (v := .bl (goesB n (heldBy c g) lot)) 4 hr (ev_call C4 hr (ea_cons (nv 0) (ea_cons (nv 6) (ea_cons (nv 2) ea_nil))) ⟨n, heldBy c g, lot, rfl, W, rfl⟩) (nv 6) rfl rfl ?_)) fun σ' H' h => ⟨_, ⟨know_put hk, ?_⟩, h⟩
      · have := hk.1
        exact Nat.lt_of_le_of_lt (Nat.le_trans this (by omega)) (by rw [sizeLine_eq]; decide : 32 < sizeLine)
      · rw [valV_put, if_pos rfl]
        rfl
    · refine ho_nil fun σ' H' h => ⟨L, ⟨⟨Nat.le_succ_of_le hk.1, hk.2⟩, ?_⟩, h⟩
      cases q : valV L (heldBy c g) with
      | none => rw [q] at e; cases e
      | some v => rw [hk.2 _ v q]; rfl
    · refine ho_ex fun L' => ho_and fun hL => ?_
      refine ho_post (ho_one (hs_put (v := .bl (sendsB n c lot g)) 3 hr (ev_get hr (nd 4) (nv 6) hL.2 rfl) (nv 5) rfl rfl ?_)) fun σ' H' h => ⟨L', hL.1, ?_⟩
      · show ((tabOfG n c lot ((subs (people c)).take k))).length < _
        unfold tabOfG
        rw [List.length_map, List.length_take, sizeLine_eq]
        omega
      · have e1 : (subs (people c)).take (k + 1) = (subs (people c)).take k ++ [g] := by rw [List.take_add_one, hx]; rfl
        have e2 : putK (tabOfG n c lot ((subs (people c)).take k)) g (.bl (sendsB n c lot g)) = tabOfG n c lot ((subs (people c)).take (k + 1)) := by
          rw [putK_new, e1]
          · unfold tabOfG
            rw [List.map_append]
            rfl
          · unfold tabOfG
            rw [List.map_map]
            intro hm
            have hm : g ∈ (subs (people c)).take k := by
              obtain ⟨y, hy, e⟩ := List.mem_map.mp hm
              have e : y = g := e
              rw [← e]
              exact hy
            obtain ⟨j, hj⟩ := List.mem_iff_getElem?.mp hm
            rw [List.getElem?_take] at hj
            split at hj
            · rename_i jk
              have := (List.getElem?_inj (h₀ := (List.getElem?_eq_some_iff.mp hj).1) (h₁ := nds)).mp (hj.trans hx.symm)
              omega
            · cases hj
        rw [← e2]
        exact Kn.les (.keep (.keep (.keep (.keep (.keep (.skip (.skip .nil))))))) _ _ h
  · refine ho_ex fun L => ho_and fun _ => ?_
    rw [List.take_length]
    exact ho_frz 3 rfl (ho_one (hs_ret (nv 3)))
end
end Kl
namespace Kl
open PySem PySem.Spec PyProof.Rows L2
open C8 (Cal pe_c)
theorem str_beq (x y : Str) : (x == y) = decide (x = y) := by
  by_cases h : x = y
  · subst h; simp
  · simp [h]
theorem eqv_texts : ∀ a b : List Str, PyData.eqvAll (a.map .str) (b.map .str) = decide (a = b)
  | [], [] => by simp [PyData.eqvAll]
  | [], _ :: _ => by simp [PyData.eqvAll]
  | _ :: _, [] => by simp [PyData.eqvAll]
  | x :: a, y :: b => by
    rw [List.map_cons, List.map_cons]
    simp [PyData.eqvAll, PyData.eqv, eqv_texts a b, str_beq]
theorem eqv_eK (a b : List Str) : PyData.eqv (eK a) (eK b) = decide (a = b) := eqv_texts a b
def okK (k : List Str) : Bool := k.all PyData.strOk
theorem lay_okK : ∀ {k : List Str}, okK k = true → PyData.canLayAll0 (k.map .str) = true
  | [], _ => rfl
  | x :: r, h => by
    simp only [okK, List.all_cons, Bool.and_eq_true] at h
    simp only [List.map_cons, PyData.canLayAll0, PyData.canLay0, Bool.and_eq_true]
    exact ⟨h.1, lay_okK h.2⟩
theorem shaped_eK {k : List Str} (h : okK k = true) : SeqAt.shaped (eK k) = true := by
  unfold SeqAt.shaped
  rw [Bool.and_eq_true, decide_eq_true_eq]
  exact ⟨by simpa [eK, PyData.canLay0] using lay_okK h, Nat.le_trans (depth_texts k) (by decide)⟩
section
variable {P : Program} {w : World} {K : PySem.W.Frag} {mg : Str → Option Value} {base : Heap}
def SallIn : List PyData → PyData → Prop := fun ds r => ∃ a b, ds = [eK a, eK b] ∧ r = .bool (allIn a b)
theorem sc33 : FnScope ["one", "other", "own"] ["one", "other"] (defScope (topS 33)) := ⟨rfl, rfl, rfl, by decide +kernel, rfl, by decide +kernel, by decide +kernel⟩
theorem c_allIn (G : Mg mg) (F : Df K mg "all_in_group" ["one", "other"] (topS 33)) : Cal P w K mg base 1 "all_in_group" (spR 2 SallIn) [] := by
  refine cal_of F sc33 rfl fun f cdv A outer s H E M hr ds r hS => ?_
  obtain ⟨a, b, rfl, rfl⟩ := hS
  refine ho_no (ho_one (hs_ret (Ev.cast (ev_all (bs := a.map fun x => decide (x ∈ b)) (G.no "all" (by decide)) rfl ?_) ?_)))
  · refine Ev.cast (ef_1 (xs := a) (en := .str) (f := fun x => .bool (decide (x ∈ b))) 2 sc33.nd (ei_T (nv 0)) (fun _ _ _ _ _ x _ => ?_)).ev ?_
    · exact ev_in (nv 2) (nv 1).seqT
    · show PyData.list _ = PyData.list _
      rw [List.map_map]
      rfl
  · rw [List.all_map]
    rfl
def SleastsOf : List PyData → PyData → Prop := fun ds r => ∃ gs, ds = [eLs gs] ∧ (∀ g ∈ gs, okK g = true) ∧ r = eLs (leastsOf gs)
theorem sc34 : FnScope ["groups", "own", "far"] ["groups"] (defScope (topS 34)) := ⟨rfl, rfl, rfl, by decide +kernel, rfl, by decide +kernel, by decide +kernel⟩
theorem c_leastsOf (G : Mg mg) (F : Df K mg "leasts_of" ["groups"] (topS 34)) (C1 : Cal P w K mg base 1 "all_in_group" (spR 2 SallIn) []) : Cal P w K mg base 2 "leasts_of" (spR 1 SleastsOf) [] := by
  refine cal_of F sc34 rfl fun f cdv A outer s H E M hr ds r hS => ?_
  obtain ⟨gs, rfl, ok, rfl⟩ := hS
  refine ho_no (ho_one (hs_ret (Ev.cast (ef_sorted (ds := (gs.filter fun own => !(gs.any fun far => !decide (far = own) && allIn far own)).map eK) hr (G.no "sorted" (by decide)) (EvF.lst ?_) (srtb_eK _) (lay_eK _)).ev ?_)))
  · refine ef_1t (xs := gs) (en := eK) (pr := fun own => !(gs.any fun far => !decide (far = own) && allIn far own)) (f := eK) 1 sc34.nd (ei_L (nv 0)) (fun s H Cc cl fp x hx => ?_) (fun _ _ _ _ _ x _ _ => nv 1)
    refine et_not (EvT.cast (et_v (ev_any (bs := gs.map fun far => !decide (far = x) && allIn far x) (G.no "any" (by decide)) rfl ?_)) ?_)
    · refine Ev.cast (ef_1 (xs := gs) (en := eK) (f := fun far => .bool (!decide (far = x) && allIn far x)) 2 sc34.nd (ei_L (nv 0)) (fun s H Cc cl fp y hy => ?_)).ev ?_
      · rw [← eqv_eK]
        refine ev_and (ev_neD hr (nv 2) (nv 1) (shaped_eK (ok y hy)) (shaped_eK (ok x hx))) fun _ => ev_one ?_
        exact ev_call C1 hr (ea_cons (nv 2) (ea_cons (nv 1) ea_nil)) ⟨y, x, rfl, rfl⟩
      · show PyData.list _ = PyData.list _
        rw [List.map_map]
        rfl
    · rw [List.any_map]
      rfl
  · show PyData.list _ = PyData.list _
    rw [sortD_srt inj_eK]
    rfl
end
end Kl
/-! W5: senders, stoppers, apart, idle, decided, hands. -/
namespace Kl
open PySem PySem.Spec PyProof.Rows L2
open C8 (Cal pe_c)
theorem sc_tab (n : Net) (c : Crew) (lot : List Int) : Scal (sendTab n c lot) := fun p hp => by
  obtain ⟨x, _, rfl⟩ := List.mem_map.mp hp
  rfl
theorem tab_len {c : Crew} (W : WfC c) (n : Net) (lot : List Int) : (sendTab n c lot).length ≤ sizeLine := by
  unfold sendTab tabOfG
  rw [List.length_map]
  exact big (Nat.le_trans (subs_few W) (by decide))
theorem tab_at {n : Net} {c : Crew} {lot : List Int} {g : List Str} (h : g ∈ subs (people c)) : valV (sendTab n c lot) g = some (.bl (sendsB n c lot g)) := valV_map (α := Nat) (fun g => V.bl (sendsB n c lot g)) h
theorem tab_keys (n : Net) (c : Crew) (lot : List Int) : (sendTab n c lot).map (fun p => eK p.1) = (subs (people c)).map eK := by
  unfold sendTab tabOfG
  rw [List.map_map]
  rfl
theorem tab_pairs (n : Net) (c : Crew) (lot : List Int) : (sendTab n c lot).map (fun p => PyData.tuple [eK p.1, vD p.2]) = (subs (people c)).map fun g => .tuple [eK g, .bool (sendsB n c lot g)] := by
  unfold sendTab tabOfG
  rw [List.map_map]
  rfl
theorem but_mem {all g : List Str} : butOf all g ∈ subs all := mem_subs.mpr List.filter_sublist
theorem ok_sub {c : Crew} (W : WfC c) {g : List Str} (h : g ∈ subs (people c)) : okK g = true := by
  refine List.all_eq_true.mpr fun x hx => ?_
  obtain ⟨p, hp, rfl⟩ := List.mem_map.mp ((mem_subs.mp h).subset hx)
  exact W.ok p hp
/-- people in order: the set of some of them is the row of them -/
theorem setT_people {c : Crew} (W : WfC c) {l : List Str} (h : ∀ x ∈ l, x ∈ people c) : setT l = (people c).filter fun x => decide (x ∈ l) := by
  refine (setS_of inj_str ?_ ?_ fun x => ?_).symm
  · exact W.up.filter _
  · exact W.nd.filter _
  · rw [List.mem_filter, decide_eq_true_eq]
    exact ⟨fun z => z.2, fun z => ⟨h x z, z⟩⟩
theorem with_mem {c : Crew} (W : WfC c) {g : List Str} {p : Str} (h : g ∈ subs (people c)) (hp : p ∈ people c) : withOne g p ∈ subs (people c) := by
  unfold withOne
  rw [setT_people W fun x hx => (List.mem_append.mp hx).elim (fun z => (mem_subs.mp h).subset z) fun z => by rw [List.mem_singleton.mp z]; exact hp]
  exact mem_subs.mpr List.filter_sublist
section
variable {P : Program} {w : World} {K : PySem.W.Frag} {mg : Str → Option Value} {base : Heap}
def Ssenders : List PyData → PyData → Prop := fun ds r => ∃ n c lot, ds = [eN n, eCr c, eLot lot] ∧ WfN n ∧ WfC c ∧ r = eLs (sendersL n c lot)
theorem sc35 : FnScope ["net", "holders", "lot", "group", "fine"] ["net", "holders", "lot"] (defScope (topS 35)) := ⟨rfl, rfl, rfl, by decide +kernel, rfl, by decide +kernel, by decide +kernel⟩
theorem c_senders (F : Df K mg "senders" ["net", "holders", "lot"] (topS 35)) (C1 : Cal P w K mg base 4 "send_table" (spR 3 SsendTab) []) (C2 : Cal P w K mg base 2 "leasts_of" (spR 1 SleastsOf) []) : Cal P w K mg base 5 "senders" (spR 3 Ssenders) [] := by
  refine cal_of F sc35 rfl fun f cdv A outer s H E M hr ds r hS => ?_
  obtain ⟨n, c, lot, rfl, W, Wc, rfl⟩ := hS
  refine ho_no (ho_one (hs_ret (ev_call C2 hr (ea_cons ?_ ea_nil) ⟨(subs (people c)).filter fun g => sendsB n c lot g, rfl, fun g hg => ok_sub Wc (List.mem_filter.mp hg).1, rfl⟩)))
  refine (ef_2t (xs := subs (people c)) (e1 := eK) (e2 := fun g => .bool (sendsB n c lot g)) (pr := fun g => sendsB n c lot g) (f := eK) 3 4 sc35.nd ?_ (fun _ _ _ _ _ x _ => ?_) (fun _ _ _ _ _ x _ _ => ?_)).ev
  · refine EvI.cast (ei_pairs (ev_call C1 hr (ea_cons (nv 0) (ea_cons (nv 1) (ea_cons (nv 2) ea_nil))) ⟨n, c, lot, rfl, W, Wc, rfl⟩) (sc_tab n c lot) (tab_len Wc n lot)) (tab_pairs n c lot)
  · exact et_v (nv 4)
  · exact nv 3
def Sstoppers : List PyData → PyData → Prop := fun ds r => ∃ n c lot, ds = [eN n, eCr c, eLot lot] ∧ WfN n ∧ WfC c ∧ r = eLs (stoppersL n c lot)
theorem sc36 : FnScope ["net", "holders", "lot", "table", "group"] ["net", "holders", "lot"] (defScope (topS 36)) := ⟨rfl, rfl, rfl, by decide +kernel, rfl, by decide +kernel, by decide +kernel⟩
theorem c_stoppers (F : Df K mg "stoppers" ["net", "holders", "lot"] (topS 36)) (C1 : Cal P w K mg base 4 "send_table" (spR 3 SsendTab) []) (C2 : Cal P w K mg base 2 "leasts_of" (spR 1 SleastsOf) []) (C3 : Cal P w K mg base 2 "people_but" (spR 2 Sbut) []) : Cal P w K mg base 5 "stoppers" (spR 3 Sstoppers) [] := by
  refine cal_of F sc36 rfl fun f cdv A outer s H E M hr ds r hS => ?_
  obtain ⟨n, c, lot, rfl, W, Wc, rfl⟩ := hS
  refine ho_no (ho_cons (hs_set 3 sc36.nd (ev_call C1 hr (ea_cons (nv 0) (ea_cons (nv 1) (ea_cons (nv 2) ea_nil))) ⟨n, c, lot, rfl, W, Wc, rfl⟩)) ?_)
  refine ho_one (hs_ret (ev_call C2 hr (ea_cons ?_ ea_nil) ⟨(subs (people c)).filter fun g => !sendsB n c lot (butOf (people c) g), rfl, fun g hg => ok_sub Wc (List.mem_filter.mp hg).1, rfl⟩))
  refine (ef_1t (xs := subs (people c)) (en := eK) (pr := fun g => !sendsB n c lot (butOf (people c) g)) (f := eK) 4 sc36.nd (EvI.cast (ei_keys (nv 3) (sc_tab n c lot) (tab_len Wc n lot)) (tab_keys n c lot)) (fun _ _ _ _ _ x _ => ?_) (fun _ _ _ _ _ x _ _ => ?_)).ev
  · exact et_not (et_v (ev_get hr (Ev.dic (nv 3) (sc_tab n c lot)) (ev_call C3 hr (ea_cons (nv 1) (ea_cons (nv 4) ea_nil)) ⟨c, x, rfl, rfl⟩) (tab_at but_mem) rfl))
  · exact nv 4
/-- the first group that sends and whose others send -/
def apartD (n : Net) (c : Crew) (lot : List Int) : PyData := match (subs (people c)).find? (fun g => sendsB n c lot g && sendsB n c lot (butOf (people c) g)) with
  | none => .none
  | some g => .tuple [if PySem.W.dataLt (eK (butOf (people c) g)) (eK g) = true then eK (butOf (people c) g) else eK g, if PySem.W.dataLt (eK g) (eK (butOf (people c) g)) = true then eK (butOf (people c) g) else eK g]
def Sapart : List PyData → PyData → Prop := fun ds r => ∃ n c lot, ds = [eN n, eCr c, eLot lot] ∧ WfN n ∧ WfC c ∧ r = apartD n c lot
theorem sc37 : FnScope ["net", "holders", "lot", "table", "group", "others"] ["net", "holders", "lot"] (defScope (topS 37)) := ⟨rfl, rfl, rfl, by decide +kernel, rfl, by decide +kernel, by decide +kernel⟩
theorem find_take {α : Type} {p : α → Bool} {l : List α} {k : Nat} {x : α} (hx : l[k]? = some x) (h : ∀ y ∈ l.take k, p y = false) (hp : p x = true) : l.find? p = some x := by
  have e : l = l.take k ++ x :: l.drop (k + 1) := by
    conv => lhs; rw [← List.take_append_drop k l]
    rw [List.drop_eq_getElem_cons (List.getElem?_eq_some_iff.mp hx).1, (List.getElem?_eq_some_iff.mp hx).2]
  rw [e, List.find?_append, List.find?_eq_none.mpr fun y hy => by rw [h y hy]; simp]
  simp [hp]
theorem take_snoc {α : Type} {p : α → Prop} {l : List α} {k : Nat} {x : α} (hx : l[k]? = some x) (h : ∀ y ∈ l.take k, p y) (hp : p x) : ∀ y ∈ l.take (k + 1), p y := by
  have e : l.take (k + 1) = l.take k ++ [x] := by rw [List.take_add_one, hx]; rfl
  intro y hy
  rw [e] at hy
  rcases List.mem_append.mp hy with z | z
  · exact h y z
  · rw [List.mem_singleton.mp z]; exact hp
theorem c_apart (G : Mg mg) (F : Df K mg "apart" ["net", "holders", "lot"] (topS 37)) (C1 : Cal P w K mg base 4 "send_table" (spR 3 SsendTab) []) (C3 : Cal P w K mg base 2 "people_but" (spR 2 Sbut) []) : Cal P w K mg base 5 "apart" (spR 3 Sapart) [] := by
  refine cal_of F sc37 rfl fun f cdv A outer s H E M hr ds r hS => ?_
  obtain ⟨n, c, lot, rfl, W, Wc, rfl⟩ := hS
  refine ho_no (ho_cons (hs_set 3 sc37.nd (ev_call C1 hr (ea_cons (nv 0) (ea_cons (nv 1) (ea_cons (nv 2) ea_nil))) ⟨n, c, lot, rfl, W, Wc, rfl⟩)) ?_)
  refine ho_cons (hs_for (xs := subs (people c)) (en := eK) (is := [4]) (δx := fun _ (_ : Unit) g => [some (.dat (eN n)), some (.dat (eCr c)), some (.dat (eLot lot)), some (.dat (kdOf (sendTab n c lot))), some (.dat (eK g)), none])
    (fun _ (_ : Unit) => [some (.dat (eN n)), some (.dat (eCr c)), some (.dat (eLot lot)), some (.dat (kdOf (sendTab n c lot))), none, none]) (fun k _ => ∀ g ∈ (subs (people c)).take k, (sendsB n c lot g && sendsB n c lot (butOf (people c) g)) = false) () rfl PassesOwn.never (fun g h => by simp at h) (Les.refl _)
    (EvI.cast (ei_keys (nv 3) (sc_tab n c lot) (tab_len Wc n lot)) (tab_keys n c lot)) (fun ps k g x hx _ => gn 4 sc37.nd) (fun ps k _ g hx hk => ?_)) ?_
  · have hg := List.mem_of_getElem? hx
    refine ho_cons (hs_set 5 sc37.nd (ev_call C3 hr (ea_cons (nv 1) (ea_cons (nv 4) ea_nil)) ⟨c, g, rfl, rfl⟩)) ?_
    refine ho_one (hs_if (EvW.t (ew_and (et_v (ev_get hr (Ev.dic (nv 3) (sc_tab n c lot)) (nv 4) (tab_at hg) rfl)) fun _ => ew_and1 (et_v (ev_get hr (Ev.dic (nv 3) (sc_tab n c lot)) (nv 5) (tab_at but_mem) rfl)))) (fun e => ?_) fun e => ?_)
    · have ef := find_take hx hk e
      have er : apartD n c lot = .tuple [if PySem.W.dataLt (eK (butOf (people c) g)) (eK g) = true then eK (butOf (people c) g) else eK g, if PySem.W.dataLt (eK g) (eK (butOf (people c) g)) = true then eK (butOf (people c) g) else eK g] := by
        unfold apartD
        rw [ef]
      rw [er]
      exact ho_no (ho_one (hs_ret (ev_tup (ea_cons (ev_minK hr (G.no "min" (by decide)) rfl (nv 4) (nv 5)) (ea_cons (ev_maxK hr (G.no "max" (by decide)) rfl (nv 4) (nv 5)) ea_nil)) (by show 2 ≤ sizeLine; decide))))
    · exact ho_nil fun σ' H' h => ⟨(), take_snoc hx hk e, Kn.les (.keep (.keep (.keep (.keep (.skip (.skip .nil)))))) _ _ h⟩
  · refine ho_ex fun _ => ho_and fun h => ?_
    rw [List.take_length] at h
    have er : apartD n c lot = .none := by
      unfold apartD
      rw [List.find?_eq_none.mpr fun y hy => by rw [h y hy]; simp]
    rw [er]
    exact ho_one (hs_ret ev_non)
def SwithOne : List PyData → PyData → Prop := fun ds r => ∃ g p, ds = [eK g, .str p] ∧ g.length ≤ 8 ∧ r = eK (withOne g p)
theorem sc38 : FnScope ["group", "person"] ["group", "person"] (defScope (topS 38)) := ⟨rfl, rfl, rfl, by decide +kernel, rfl, by decide +kernel, by decide +kernel⟩
theorem c_withOne (F : Df K mg "with_one" ["group", "person"] (topS 38)) (C1 : Cal P w K mg base 1 "set_of" (spR 1 Ssetof) []) : Cal P w K mg base 2 "with_one" (spR 2 SwithOne) [] := by
  refine cal_of F sc38 rfl fun f cdv A outer s H E M hr ds r hS => ?_
  obtain ⟨g, p, rfl, few, rfl⟩ := hS
  refine ho_no (ho_one (hs_ret (ev_call C1 hr (ea_cons (d := .list ((g ++ [p]).map .str)) ?_ ea_nil) (.inl ⟨false, g ++ [p], rfl, by rw [List.length_append]; exact Nat.lt_of_le_of_lt (Nat.add_le_add_right few 1) (by decide), rfl⟩))))
  refine Ev.cast (ev_lst (ea_star (nv 0).seqT (ea_cons (nv 1) ea_nil)) ?_) ?_
  · rw [List.length_append, List.length_map]
    exact big (by show g.length + 1 ≤ 4000; omega)
  · rw [List.map_append]
    rfl
def Stimes : List PyData → PyData → Prop := fun ds r => ∃ n c lot p, ds = [kdOf (sendTab n c lot), .str p] ∧ WfC c ∧ p ∈ people c ∧ r = .int (timesD n c lot p : Nat)
theorem sc39 : FnScope ["table", "person", "groups", "group"] ["table", "person"] (defScope (topS 39)) := ⟨rfl, rfl, rfl, by decide +kernel, rfl, by decide +kernel, by decide +kernel⟩
theorem sub_len8 {c : Crew} (W : WfC c) {g : List Str} (h : g ∈ subs (people c)) : g.length ≤ 8 := by
  have h1 := (mem_subs.mp h).length_le
  rw [show (people c).length = c.length from List.length_map _] at h1
  have := W.cl
  omega
theorem c_times (G : Mg mg) (F : Df K mg "times_decided" ["table", "person"] (topS 39)) (C1 : Cal P w K mg base 2 "with_one" (spR 2 SwithOne) []) : Cal P w K mg base 3 "times_decided" (spR 2 Stimes) [] := by
  refine cal_of F sc39 rfl fun f cdv A outer s H E M hr ds r hS => ?_
  obtain ⟨n, c, lot, p, rfl, Wc, hp, rfl⟩ := hS
  refine ho_no (ho_cons (hs_1t (xs := subs (people c)) (en := eK) (pr := fun g => !decide (p ∈ g)) (f := eK) 2 3 sc39.nd (EvI.cast (ei_keys (nv 0) (sc_tab n c lot) (tab_len Wc n lot)) (tab_keys n c lot)) (fun _ _ _ _ _ x _ => et_nin (nv 1) (nv 3).seqT) (fun _ _ _ _ _ x _ _ => nv 3)) ?_)
  refine ho_freeze 2 rfl ?_
  refine ho_one (hs_ret (Ev.cast (ev_len (G.no "len" (by decide)) (EvF.seq (ef_1t (xs := (subs (people c)).filter fun g => !decide (p ∈ g)) (en := eK) (pr := fun g => sendsB n c lot (withOne g p) && !sendsB n c lot g) (f := eK) 3 sc39.nd (ei_L (nv 2)) (fun _ _ _ _ _ x hx => ?_) (fun _ _ _ _ _ x _ _ => nv 3)))) ?_))
  · have hg := (List.mem_filter.mp hx).1
    exact EvW.t (ew_and (et_v (ev_get hr (Ev.dic (nv 0) (sc_tab n c lot)) (ev_call C1 hr (ea_cons (nv 3) (ea_cons (nv 1) ea_nil)) ⟨x, p, rfl, sub_len8 Wc hg, rfl⟩) (tab_at (with_mem Wc hg hp)) rfl)) fun _ => ew_and1 (et_not (et_v (ev_get hr (Ev.dic (nv 0) (sc_tab n c lot)) (nv 3) (tab_at hg) rfl))))
  · rw [List.length_map]
    rfl
def Sdecided : List PyData → PyData → Prop := fun ds r => ∃ n c lot p, ds = [eN n, eCr c, eLot lot, .str p] ∧ WfN n ∧ WfC c ∧ p ∈ people c ∧ r = .int (timesD n c lot p : Nat)
theorem sc40 : FnScope ["net", "holders", "lot", "person"] ["net", "holders", "lot", "person"] (defScope (topS 40)) := ⟨rfl, rfl, rfl, by decide +kernel, rfl, by decide +kernel, by decide +kernel⟩
theorem c_decided (F : Df K mg "decided" ["net", "holders", "lot", "person"] (topS 40)) (C1 : Cal P w K mg base 2 "check_people" (spR 2 Scheck) []) (C2 : Cal P w K mg base 3 "times_decided" (spR 2 Stimes) []) (C3 : Cal P w K mg base 4 "send_table" (spR 3 SsendTab) []) : Cal P w K mg base 5 "decided" (spR 4 Sdecided) [] := by
  refine cal_of F sc40 rfl fun f cdv A outer s H E M hr ds r hS => ?_
  obtain ⟨n, c, lot, p, rfl, W, Wc, hp, rfl⟩ := hS
  refine ho_no (ho_cons (hs_expr (ev_call C1 hr (ea_cons (nv 1) (ea_cons (ev_lst (ea_cons (nv 3) ea_nil)) ea_nil)) ⟨c, false, [p], rfl, fun x hx => by rw [List.mem_singleton.mp hx]; exact hp, rfl⟩)) ?_)
  exact ho_one (hs_ret (ev_call C2 hr (ea_cons (ev_call C3 hr (ea_cons (nv 0) (ea_cons (nv 1) (ea_cons (nv 2) ea_nil))) ⟨n, c, lot, rfl, W, Wc, rfl⟩) (ea_cons (nv 3) ea_nil)) ⟨n, c, lot, p, rfl, Wc, hp, rfl⟩))
def Sidle : List PyData → PyData → Prop := fun ds r => ∃ n c lot, ds = [eN n, eCr c, eLot lot] ∧ WfN n ∧ WfC c ∧ r = eK (idleL n c lot)
theorem sc41 : FnScope ["net", "holders", "lot", "table", "person"] ["net", "holders", "lot"] (defScope (topS 41)) := ⟨rfl, rfl, rfl, by decide +kernel, rfl, by decide +kernel, by decide +kernel⟩
theorem c_idle (G : Mg mg) (F : Df K mg "idle_people" ["net", "holders", "lot"] (topS 41)) (C1 : Cal P w K mg base 4 "send_table" (spR 3 SsendTab) []) (C2 : Cal P w K mg base 3 "times_decided" (spR 2 Stimes) []) (C3 : Cal P w K mg base 1 "people_in" (spR 1 SpeopleIn) []) : Cal P w K mg base 5 "idle_people" (spR 3 Sidle) [] := by
  refine cal_of F sc41 rfl fun f cdv A outer s H E M hr ds r hS => ?_
  obtain ⟨n, c, lot, rfl, W, Wc, rfl⟩ := hS
  refine ho_no (ho_cons (hs_set 3 sc41.nd (ev_call C1 hr (ea_cons (nv 0) (ea_cons (nv 1) (ea_cons (nv 2) ea_nil))) ⟨n, c, lot, rfl, W, Wc, rfl⟩)) ?_)
  refine ho_one (hs_ret (ev_tupL (G.no "tuple" (by decide)) (ef_1t (xs := people c) (en := .str) (pr := fun p => decide (timesD n c lot p = 0)) (f := .str) 4 sc41.nd (ei_T (ev_call C3 hr (ea_cons (nv 1) ea_nil) ⟨c, rfl, rfl⟩)) (fun _ _ _ _ _ x hx => ?_) (fun _ _ _ _ _ x _ _ => ?_)).ev))
  · refine EvT.cast (et_eqD hr (ev_call C2 hr (ea_cons (nv 3) (ea_cons (nv 4) ea_nil)) ⟨n, c, lot, x, rfl, Wc, hx, rfl⟩) ev_int rfl rfl) ?_
    simp only [PyData.eqv]
    by_cases z : timesD n c lot x = 0
    · rw [z]; rfl
    · have z2 : (timesD n c lot x : Int) ≠ 0 := by omega
      simp [z, z2]
  · exact nv 4
end
end Kl
/-! W6: hands; openers and barriers. -/
namespace Kl
open PySem PySem.Spec PyProof.Rows L2 PySem.W
open C8 (Cal pe_c)
theorem inj_eP : InjE eP := fun a b h => by
  simp only [eP, keyToks, keyToksAll, List.cons_append, List.nil_append, List.cons.injEq, true_and, Sum.inl.injEq] at h
  obtain ⟨h1, h2⟩ := h
  have e1 : a.1 = b.1 := by omega
  have e2 : keyToks (eK a.2) = keyToks (eK b.2) := List.append_cancel_right h2
  exact Prod.ext e1 (inj_eK _ _ e2)
theorem srtb_eP (l : List (Nat × List Str)) : Srtb (l.map eP) := by
  refine ⟨fun d h d' h' => ?_, .inl fun d h => ?_, fun d h => ?_⟩ <;> obtain ⟨x, _, rfl⟩ := List.mem_map.mp h
  · obtain ⟨y, _, rfl⟩ := List.mem_map.mp h'
    simp only [eP, eK, alike, alikeAll, Bool.and_true, Bool.true_and]
    exact alike_texts x.2 y.2
  · exact ⟨_, rfl⟩
  · have := depth_texts x.2
    simp only [eP, PyData.depth, PyData.depthAll]
    omega
theorem pl_eP : ∀ l : List (Nat × List Str), plA (l.map eP) = true
  | [] => rfl
  | x :: r => by simp [plA, plD, eP, eK, lay_texts x.2, pl_eP r]
section
variable {P : Program} {w : World} {K : PySem.W.Frag} {mg : Str → Option Value} {base : Heap}
def optD {α : Type} (f : α → PyData) : Option α → PyData
  | none => .none
  | some x => f x
def Swanted : List PyData → PyData → Prop := fun ds r => ∃ n c lot g, ds = [eN n, eCr c, eLot lot, eK g] ∧ WfN n ∧ WfC c ∧ r = optD eK (wantedK n c lot g)
theorem sc42 : FnScope ["net", "holders", "lot", "group", "mine", "every", "its", "many", "some", "key", "own"] ["net", "holders", "lot", "group"] (defScope (topS 42)) := ⟨rfl, rfl, rfl, by decide +kernel, rfl, by decide +kernel, by decide +kernel⟩
theorem setT_len (l : List Str) : (setT l).length ≤ l.length := by
  have h : ∀ l : List Str, (nub l).length ≤ l.length := fun l => by
    induction l with
    | nil => exact Nat.le_refl _
    | cons x r ih =>
      unfold nub
      split
      · exact Nat.le_succ_of_le ih
      · exact Nat.succ_le_succ ih
  unfold setT setS
  rw [len_srt]
  exact h l
theorem c_wanted (G : Mg mg) (F : Df K mg "keys_wanted" ["net", "holders", "lot", "group"] (topS 42)) (C1 : Cal P w K mg base 2 "held_by" (spR 2 SheldBy) []) (C2 : Cal P w K mg base 1 "people_in" (spR 1 SpeopleIn) []) (C3 : Cal P w K mg base 2 "keys_of" (spR 1 SkeysOf) []) (C4 : Cal P w K mg base 1 "subsets_of" (spR 1 Ssubs) []) (C5 : Cal P w K mg base 3 "goes" (spR 3 Sgoes) []) (C6 : Cal P w K mg base 1 "set_of" (spR 1 Ssetof) []) :
    Cal P w K mg base 4 "keys_wanted" (spR 4 Swanted) [] := by
  refine cal_of F sc42 rfl fun f cdv A outer s H E M hr ds r hS => ?_
  obtain ⟨n, c, lot, g, rfl, W, Wc, rfl⟩ := hS
  have few1 : (itsOf n c g).length ≤ 5 := Nat.le_trans (List.length_filter_le _ _) (Nat.le_trans (keysOf_len n) W.ll)
  have heldFew : ∀ g, (heldBy c g).length ≤ 40 := fun g => Nat.le_trans (setT_len _) (held_few Wc g)
  refine ho_no (ho_cons (hs_par' 4 5 sc42.nd (ee_d (ev_call C1 hr (ea_cons (nv 1) (ea_cons (nv 3) ea_nil)) ⟨c, g, rfl, Wc, rfl⟩)) (ee_d (ev_call C1 hr (ea_cons (nv 1) (ea_cons (ev_call C2 hr (ea_cons (nv 1) ea_nil) ⟨c, rfl, rfl⟩) ea_nil)) ⟨c, people c, rfl, Wc, rfl⟩))) ?_)
  refine ho_cons (hs_1t (xs := keysOf n) (en := .str) (pr := fun k => decide (k ∈ heldBy c (people c)) && (!decide (k ∈ heldBy c g) && decide (0 < g.length))) (f := .str) 6 9 sc42.nd (ei_T (ev_call C3 hr (ea_cons (nv 0) ea_nil) ⟨n, rfl, Nat.lt_of_le_of_lt W.ll (by decide), rfl⟩)) (fun _ _ _ _ _ x _ => ?_) (fun _ _ _ _ _ x _ _ => nv 9)) ?_
  · refine EvW.t (ew_and (et_in (nv 9) (nv 5).seqT) fun _ => ew_and (et_nin (nv 9) (nv 4).seqT) fun _ => ew_and1 (EvT.cast (et_gt (ev_len (G.no "len" (by decide)) (nv 3).seqT) ev_int) ?_))
    rw [List.length_map]
    exact decide_eq_decide.mpr (by omega)
  refine ho_freeze 6 rfl ?_
  refine ho_cons (hs_for (xs := byLen (subs (itsOf n c g))) (en := eP) (is := [7, 8]) (δx := fun _ (_ : Unit) p => [some (.dat (eN n)), some (.dat (eCr c)), some (.dat (eLot lot)), some (.dat (eK g)), some (.dat (eK (heldBy c g))), some (.dat (eK (heldBy c (people c)))), some (.dat (.list ((itsOf n c g).map .str))), some (.dat (.int p.1)), some (.dat (eK p.2)), none, none])
    (fun _ (_ : Unit) => [some (.dat (eN n)), some (.dat (eCr c)), some (.dat (eLot lot)), some (.dat (eK g)), some (.dat (eK (heldBy c g))), some (.dat (eK (heldBy c (people c)))), some (.dat (.list ((itsOf n c g).map .str))), none, none, none, none]) (fun k _ => ∀ p ∈ (byLen (subs (itsOf n c g))).take k, goesB n (setT (heldBy c g ++ p.2)) lot = false) () rfl PassesOwn.never (fun g h => by simp at h) (Les.refl _)
    (ei_L (ds := (byLen (subs (itsOf n c g))).map eP) ?_) (fun ps k g x hx _ => gn2 (i := 7) (j := 8) rfl (fun δ d => gn 7 sc42.nd) (fun δ d => gn 8 sc42.nd)) (fun ps k _ p hx hk => ?_)) ?_
  · refine Ev.cast (ef_sorted (ds := ((subs (itsOf n c g)).map fun o => (o.length, o)).map eP) hr (G.no "sorted" (by decide)) (EvF.lst ?_) (srtb_eP _) (pl_eP _)).ev ?_
    · refine EvF.cast (ef_1 (xs := subs (itsOf n c g)) (en := eK) (f := fun o => eP (o.length, o)) 10 sc42.nd (ei_L (ev_call C4 hr (ea_cons (nv 6) ea_nil) ⟨false, itsOf n c g, rfl, by omega, rfl⟩)) (fun _ _ _ _ _ x _ => ?_)) ?_
      · refine ev_tup (ea_cons (Ev.cast (ev_len (G.no "len" (by decide)) (nv 10).seqT) ?_) (ea_cons (nv 10) ea_nil))
        rw [List.length_map]
      · rw [List.map_map]
        rfl
    · show PyData.list _ = PyData.list _
      rw [sortD_srt inj_eP]
      rfl
  · have hp := List.mem_of_getElem? hx
    have hp8 : p.2.length ≤ 5 := by
      obtain ⟨o, ho, e⟩ := List.mem_map.mp (mem_srt.mp hp)
      rw [← e]
      exact Nat.le_trans (mem_subs.mp ho).length_le few1
    refine ho_one (hs_if (k := goesB n (setT (heldBy c g ++ p.2)) lot) (et_v (ev_call C5 hr (ea_cons (nv 0) (ea_cons (ev_call C6 hr (ea_cons (d := .list ((heldBy c g ++ p.2).map .str)) ?_ ea_nil) (.inl ⟨false, heldBy c g ++ p.2, rfl, ?_, rfl⟩)) (ea_cons (nv 2) ea_nil))) ⟨n, setT (heldBy c g ++ p.2), lot, rfl, W, rfl⟩)) (fun e => ?_) fun e => ?_)
    · refine Ev.cast (ev_lst (ea_star (nv 4).seqT (ea_star (nv 8).seqT ea_nil)) ?_) ?_
      · rw [List.append_nil, List.length_append, List.length_map, List.length_map]
        have := heldFew g
        exact big (by omega)
      · rw [List.append_nil, List.map_append]
    · rw [List.length_append]
      have := heldFew g
      omega
    · have er : optD eK (wantedK n c lot g) = eK p.2 := by
        unfold wantedK
        rw [find_take hx hk e]
        rfl
      rw [er]
      exact ho_no (ho_one (hs_ret (nv 8)))
    · exact ho_nil fun σ' H' h => ⟨(), take_snoc (p := fun p : Nat × List Str => goesB n (setT (heldBy c g ++ p.2)) lot = false) hx hk e, Kn.les (.keep (.keep (.keep (.keep (.keep (.keep (.keep (.skip (.skip (.skip (.skip .nil))))))))))) _ _ h⟩
  · refine ho_ex fun _ => ho_and fun h => ?_
    rw [List.take_length] at h
    have er : optD eK (wantedK n c lot g) = .none := by
      unfold wantedK
      rw [List.find?_eq_none.mpr fun y hy => by rw [h y hy]; simp]
      rfl
    rw [er]
    exact ho_one (hs_ret ev_non)
def Sfewest : List PyData → PyData → Prop := fun ds r => ∃ n c lot g, ds = [eN n, eCr c, eLot lot, eK g] ∧ WfN n ∧ WfC c ∧ (∀ x ∈ g, x ∈ people c) ∧ r = optD (fun k : List Str => .int (k.length : Nat)) (wantedK n c lot g)
theorem sc43 : FnScope ["net", "holders", "lot", "group", "found"] ["net", "holders", "lot", "group"] (defScope (topS 43)) := ⟨rfl, rfl, rfl, by decide +kernel, rfl, by decide +kernel, by decide +kernel⟩
theorem c_fewest (G : Mg mg) (F : Df K mg "fewest_hands" ["net", "holders", "lot", "group"] (topS 43)) (C1 : Cal P w K mg base 2 "check_people" (spR 2 Scheck) []) (C2 : Cal P w K mg base 4 "keys_wanted" (spR 4 Swanted) []) : Cal P w K mg base 5 "fewest_hands" (spR 4 Sfewest) [] := by
  refine cal_of F sc43 rfl fun f cdv A outer s H E M hr ds r hS => ?_
  obtain ⟨n, c, lot, g, rfl, W, Wc, sub, rfl⟩ := hS
  refine ho_no (ho_cons (hs_expr (ev_call C1 hr (ea_cons (nv 1) (ea_cons (nv 3) ea_nil)) ⟨c, true, g, rfl, sub, rfl⟩)) ?_)
  refine ho_cons (hs_set 4 sc43.nd (ev_call C2 hr (ea_cons (nv 0) (ea_cons (nv 1) (ea_cons (nv 2) (ea_cons (nv 3) ea_nil)))) ⟨n, c, lot, g, rfl, W, Wc, rfl⟩)) ?_
  cases q : wantedK n c lot g with
  | none => exact ho_one (hs_ret (ev_if (k := true) (et_isN (d := .none) (nv 4)) (fun _ => ev_non) fun z => nomatch z))
  | some k =>
    refine ho_one (hs_ret (ev_if (k := false) (et_isN (d := eK k) (nv 4)) (fun z => nomatch z) fun _ => Ev.cast (ev_len (ds := k.map .str) (G.no "len" (by decide)) ?_) ?_))
    · exact Ev.seqT (ds := k.map .str) (nv 4)
    · rw [List.length_map]
      rfl
/-! ### openers, barriers -/
theorem sc45 : FnScope ["some", "other", "name"] ["some", "other"] (defScope (topS 45)) := ⟨rfl, rfl, rfl, by decide +kernel, rfl, by decide +kernel, by decide +kernel⟩
theorem c_within (G : Mg mg) (F : Df K mg "is_within" ["some", "other"] (topS 45)) : Cal P w K mg base 1 "is_within" (spR 2 SallIn) [] := by
  refine cal_of F sc45 rfl fun f cdv A outer s H E M hr ds r hS => ?_
  obtain ⟨a, b, rfl, rfl⟩ := hS
  refine ho_no (ho_one (hs_ret (Ev.cast (ev_all (bs := a.map fun x => decide (x ∈ b)) (G.no "all" (by decide)) rfl ?_) ?_)))
  · refine Ev.cast (ef_1 (xs := a) (en := .str) (f := fun x => .bool (decide (x ∈ b))) 2 sc45.nd (ei_T (nv 0)) (fun _ _ _ _ _ x _ => ?_)).ev ?_
    · exact ev_in (nv 2) (nv 1).seqT
    · show PyData.list _ = PyData.list _
      rw [List.map_map]
      rfl
  · rw [List.all_map]
    rfl
def Sleasts : List PyData → PyData → Prop := fun ds r => ∃ fam, ds = [eLs fam] ∧ fam.length < 64 ∧ (∀ g ∈ fam, okK g = true) ∧ r = eTs (leastsK fam)
theorem sc46 : FnScope ["family", "own", "some", "far"] ["family"] (defScope (topS 46)) := ⟨rfl, rfl, rfl, by decide +kernel, rfl, by decide +kernel, by decide +kernel⟩
theorem c_leasts (G : Mg mg) (F : Df K mg "leasts" ["family"] (topS 46)) (C1 : Cal P w K mg base 1 "set_of" (spR 1 Ssetof) []) (C2 : Cal P w K mg base 3 "tupled" (spR 1 Stup2) []) (C3 : Cal P w K mg base 1 "is_within" (spR 2 SallIn) []) : Cal P w K mg base 4 "leasts" (spR 1 Sleasts) [] := by
  refine cal_of F sc46 rfl fun f cdv A outer s H E M hr ds r hS => ?_
  obtain ⟨fam, rfl, few, ok, rfl⟩ := hS
  have ok' : ∀ g ∈ setK fam, okK g = true := fun g hg => ok g (mem_setS.mp hg)
  refine ho_no (ho_cons (hs_set 1 sc46.nd (ev_call C1 hr (ea_cons (ev_call C2 hr (ea_cons (nv 0) ea_nil) ⟨fam, rfl, rfl⟩) ea_nil) (.inr ⟨true, fam, rfl, few, rfl⟩))) ?_)
  refine ho_one (hs_ret (ev_tupL (G.no "tuple" (by decide)) (ef_1t (xs := setK fam) (en := eK) (pr := fun some => !((setK fam).filter (fun far => !decide (far = some))).any fun far => allIn far some) (f := eK) 2 sc46.nd (ei_T (nv 1)) (fun s H Cc cl fp x hx => ?_) (fun _ _ _ _ _ x _ _ => nv 2)).ev))
  refine et_not (EvT.cast (et_v (ev_any (bs := ((setK fam).filter (fun far => !decide (far = x))).map fun far => allIn far x) (G.no "any" (by decide)) rfl ?_)) ?_)
  · refine Ev.cast (ef_1t (xs := setK fam) (en := eK) (pr := fun far => !decide (far = x)) (f := fun far => .bool (allIn far x)) 3 sc46.nd (ei_T (nv 1)) (fun s H Cc cl fp y hy => ?_) (fun s H Cc cl fp y hy _ => ?_)).ev ?_
    · exact EvT.cast (et_neD hr (nv 3) (nv 2) (shaped_eK (ok' y hy)) (shaped_eK (ok' x hx))) (by rw [eqv_eK])
    · exact ev_call C3 hr (ea_cons (nv 3) (ea_cons (nv 2) ea_nil)) ⟨y, x, rfl, rfl⟩
    · show PyData.list _ = PyData.list _
      rw [List.map_map]
      rfl
  · rw [List.any_map]
    rfl
def Sothers : List PyData → PyData → Prop := fun ds r => ∃ n keys, ds = [eN n, eK keys] ∧ WfN n ∧ r = eK (othersOf n keys)
theorem sc47 : FnScope ["net", "keys", "name"] ["net", "keys"] (defScope (topS 47)) := ⟨rfl, rfl, rfl, by decide +kernel, rfl, by decide +kernel, by decide +kernel⟩
theorem ll64 {n : Net} (W : WfN n) : n.ls.length < 64 := Nat.lt_of_le_of_lt W.ll (by decide)
theorem c_others (G : Mg mg) (F : Df K mg "others_of" ["net", "keys"] (topS 47)) (C1 : Cal P w K mg base 2 "keys_of" (spR 1 SkeysOf) []) : Cal P w K mg base 3 "others_of" (spR 2 Sothers) [] := by
  refine cal_of F sc47 rfl fun f cdv A outer s H E M hr ds r hS => ?_
  obtain ⟨n, keys, rfl, W, rfl⟩ := hS
  exact ho_no (ho_one (hs_ret (ev_tupL (G.no "tuple" (by decide)) (ef_1t (xs := keysOf n) (en := .str) (pr := fun x => !decide (x ∈ keys)) (f := .str) 2 sc47.nd (ei_T (ev_call C1 hr (ea_cons (nv 0) ea_nil) ⟨n, rfl, ll64 W, rfl⟩)) (fun _ _ _ _ _ x _ => et_nin (nv 2) (nv 1).seqT) (fun _ _ _ _ _ x _ _ => nv 2)).ev)))
def goTab (n : Net) (lot : List Int) : List (List Str × V) := (subs (keysOf n)).map fun k => (k, V.bl (goesB n k lot))
def StableOf : List PyData → PyData → Prop := fun ds r => ∃ n lot, ds = [eN n, eLot lot] ∧ WfN n ∧ r = kdOf (goTab n lot)
theorem sc48 : FnScope ["net", "lot", "keys"] ["net", "lot"] (defScope (topS 48)) := ⟨rfl, rfl, rfl, by decide +kernel, rfl, by decide +kernel, by decide +kernel⟩
theorem keys5 {n : Net} (W : WfN n) : (keysOf n).length ≤ 5 := Nat.le_trans (keysOf_len n) W.ll
theorem subs32 {n : Net} (W : WfN n) : (subs (keysOf n)).length ≤ 32 := by
  rw [len_subs]
  exact Nat.pow_le_pow_right (by decide) (keys5 W)
theorem c_tableOf (F : Df K mg "table_of" ["net", "lot"] (topS 48)) (C1 : Cal P w K mg base 3 "goes" (spR 3 Sgoes) []) (C2 : Cal P w K mg base 1 "subsets_of" (spR 1 Ssubs) []) (C3 : Cal P w K mg base 2 "keys_of" (spR 1 SkeysOf) []) : Cal P w K mg base 4 "table_of" (spR 2 StableOf) [] := by
  refine cal_of F sc48 rfl fun f cdv A outer s H E M hr ds r hS => ?_
  obtain ⟨n, lot, rfl, W, rfl⟩ := hS
  refine ho_no (ho_one (hs_ret (ev_dc (xs := subs (keysOf n)) (en := eK) (key := fun k => k) (val := fun k => V.bl (goesB n k lot)) 2 sc48.nd hr (ei_L (ds := (subs (keysOf n)).map eK) ?_) (by rw [List.map_id']; exact nd_subs (keysOf_nd n)) (fun _ _ => rfl) (fun _ _ _ _ _ x _ => nv 2) (fun _ _ _ _ _ x _ => ?_))))
  · exact ev_call C2 hr (ea_cons (ev_call C3 hr (ea_cons (nv 0) ea_nil) ⟨n, rfl, ll64 W, rfl⟩) ea_nil) ⟨true, keysOf n, rfl, Nat.le_trans (keys5 W) (by decide), rfl⟩
  · exact ev_call C1 hr (ea_cons (nv 0) (ea_cons (nv 2) (ea_cons (nv 1) ea_nil))) ⟨n, x, lot, rfl, W, rfl⟩
theorem sc_go (n : Net) (lot : List Int) : Scal (goTab n lot) := fun p hp => by
  obtain ⟨x, _, rfl⟩ := List.mem_map.mp hp
  rfl
theorem go_len {n : Net} (W : WfN n) (lot : List Int) : (goTab n lot).length ≤ sizeLine := by
  unfold goTab
  rw [List.length_map]
  exact big (Nat.le_trans (subs32 W) (by decide))
theorem go_pairs (n : Net) (lot : List Int) : (goTab n lot).map (fun p => PyData.tuple [eK p.1, vD p.2]) = (subs (keysOf n)).map fun k => .tuple [eK k, .bool (goesB n k lot)] := by
  unfold goTab
  rw [List.map_map]
  rfl
def SsetsOpen : List PyData → PyData → Prop := fun ds r => ∃ n lot, ds = [eN n, eLot lot] ∧ WfN n ∧ r = eLs ((subs (keysOf n)).filter fun k => goesB n k lot)
theorem sc49 : FnScope ["net", "lot", "keys", "fine"] ["net", "lot"] (defScope (topS 49)) := ⟨rfl, rfl, rfl, by decide +kernel, rfl, by decide +kernel, by decide +kernel⟩
theorem c_setsOpen (F : Df K mg "sets_open" ["net", "lot"] (topS 49)) (C1 : Cal P w K mg base 4 "table_of" (spR 2 StableOf) []) : Cal P w K mg base 5 "sets_open" (spR 2 SsetsOpen) [] := by
  refine cal_of F sc49 rfl fun f cdv A outer s H E M hr ds r hS => ?_
  obtain ⟨n, lot, rfl, W, rfl⟩ := hS
  refine ho_no (ho_one (hs_ret (ef_2t (xs := subs (keysOf n)) (e1 := eK) (e2 := fun k => .bool (goesB n k lot)) (pr := fun k => goesB n k lot) (f := eK) 2 3 sc49.nd ?_ (fun _ _ _ _ _ x _ => ?_) (fun _ _ _ _ _ x _ _ => ?_)).ev))
  · exact EvI.cast (ei_pairs (ev_call C1 hr (ea_cons (nv 0) (ea_cons (nv 1) ea_nil)) ⟨n, lot, rfl, W, rfl⟩) (sc_go n lot) (go_len W lot)) (go_pairs n lot)
  · exact et_v (nv 3)
  · exact nv 2
theorem okK_keys {n : Net} (W : WfN n) {k : List Str} (h : ∀ x ∈ k, x ∈ keysOf n) : okK k = true := List.all_eq_true.mpr fun x hx => by
  obtain ⟨l, hl, rfl⟩ := List.mem_map.mp (mem_setS.mp (h x hx))
  exact W.kok l hl
def Sopeners : List PyData → PyData → Prop := fun ds r => ∃ n lot, ds = [eN n, eLot lot] ∧ WfN n ∧ r = eTs (openersL n lot)
theorem sc50 : FnScope ["net", "lot"] ["net", "lot"] (defScope (topS 50)) := ⟨rfl, rfl, rfl, by decide +kernel, rfl, by decide +kernel, by decide +kernel⟩
theorem c_openers (F : Df K mg "openers" ["net", "lot"] (topS 50)) (C1 : Cal P w K mg base 5 "sets_open" (spR 2 SsetsOpen) []) (C2 : Cal P w K mg base 4 "leasts" (spR 1 Sleasts) []) : Cal P w K mg base 6 "openers" (spR 2 Sopeners) [] := by
  refine cal_of F sc50 rfl fun f cdv A outer s H E M hr ds r hS => ?_
  obtain ⟨n, lot, rfl, W, rfl⟩ := hS
  exact ho_no (ho_one (hs_ret (ev_call C2 hr (ea_cons (ev_call C1 hr (ea_cons (nv 0) (ea_cons (nv 1) ea_nil)) ⟨n, lot, rfl, W, rfl⟩) ea_nil) ⟨_, rfl, Nat.lt_of_le_of_lt (Nat.le_trans (List.length_filter_le _ _) (subs32 W)) (by decide), fun g hg => okK_keys W fun x hx => (mem_subs.mp (List.mem_filter.mp hg).1).subset hx, rfl⟩)))
def Sbarriers : List PyData → PyData → Prop := fun ds r => ∃ n lot, ds = [eN n, eLot lot] ∧ WfN n ∧ r = eTs (barriersL n lot)
theorem sc51 : FnScope ["net", "lot", "keys", "fine"] ["net", "lot"] (defScope (topS 51)) := ⟨rfl, rfl, rfl, by decide +kernel, rfl, by decide +kernel, by decide +kernel⟩
theorem c_barriers (F : Df K mg "barriers" ["net", "lot"] (topS 51)) (C1 : Cal P w K mg base 4 "table_of" (spR 2 StableOf) []) (C2 : Cal P w K mg base 4 "leasts" (spR 1 Sleasts) []) (C3 : Cal P w K mg base 3 "others_of" (spR 2 Sothers) []) : Cal P w K mg base 5 "barriers" (spR 2 Sbarriers) [] := by
  refine cal_of F sc51 rfl fun f cdv A outer s H E M hr ds r hS => ?_
  obtain ⟨n, lot, rfl, W, rfl⟩ := hS
  refine ho_no (ho_one (hs_ret (ev_call C2 hr (ea_cons (d := eLs (((subs (keysOf n)).filter fun k => !goesB n k lot).map (othersOf n))) ?_ ea_nil) ⟨_, rfl, ?_, fun g hg => ?_, rfl⟩)))
  · refine Ev.cast (ef_2t (xs := subs (keysOf n)) (e1 := eK) (e2 := fun k => .bool (goesB n k lot)) (pr := fun k => !goesB n k lot) (f := fun k => eK (othersOf n k)) 2 3 sc51.nd ?_ (fun _ _ _ _ _ x _ => ?_) (fun _ _ _ _ _ x _ _ => ?_)).ev ?_
    · exact EvI.cast (ei_pairs (ev_call C1 hr (ea_cons (nv 0) (ea_cons (nv 1) ea_nil)) ⟨n, lot, rfl, W, rfl⟩) (sc_go n lot) (go_len W lot)) (go_pairs n lot)
    · exact et_not (et_v (nv 3))
    · exact ev_call C3 hr (ea_cons (nv 0) (ea_cons (nv 2) ea_nil)) ⟨n, x, rfl, W, rfl⟩
    · show PyData.list _ = PyData.list _
      rw [List.map_map]
      rfl
  · rw [List.length_map]
    exact Nat.lt_of_le_of_lt (Nat.le_trans (List.length_filter_le _ _) (subs32 W)) (by decide)
  · obtain ⟨k, _, rfl⟩ := List.mem_map.mp hg
    exact okK_keys W fun x hx => (List.mem_filter.mp hx).1
end
end Kl
/-! W7: the law's own defs that only reckon. -/
namespace Kl
open PySem PySem.Spec PyProof.Rows L2 PySem.W
open C8 (Cal pe_c)
def leanStep (found : List (List Str)) (own : List Str) : List (List Str) := if (found.filter fun o => decide ((o.filter fun t => !decide (t ∈ own)) = [])) = [] then found ++ [own] else found
def leanL (bands : List (List Str)) : List (List Str) := srt eK ((byLen bands).foldl (fun f p => leanStep f p.2) [])
def meetL (lots : List (List Str)) (tags : List Str) : List (List Str) := leanL ((subs tags).filter fun band => decide ((lots.filter fun own => decide ((own.filter fun t => decide (t ∈ band)) = [])) = []))
def moreOf (own kit : List Str) : List Str := own.filter fun k => !decide (k ∈ kit)
def wantL (opens : List (List Str)) (kit every band : List Str) : List Int := (opens.filter fun own => decide ((moreOf (moreOf own kit) every) = []) && (decide (moreOf own kit = []) || !decide (band = []))).map fun own => ((moreOf own kit).length : Int)
theorem eqv_nilL (ds : List PyData) : PyData.eqv (.list ds) (.list []) = decide (ds = []) := by
  cases ds <;> simp [PyData.eqv, PyData.eqvAll]
theorem shaped_texts {l : List Str} (h : okK l = true) : SeqAt.shaped (.list (l.map .str)) = true := by
  unfold SeqAt.shaped
  rw [Bool.and_eq_true, decide_eq_true_eq]
  refine ⟨by simpa [PyData.canLay0] using lay_okK h, ?_⟩
  have := depth_texts l
  simp only [eK, PyData.depth] at this ⊢
  omega
theorem lay_rows : ∀ {l : List (List Str)}, (∀ k ∈ l, okK k = true) → PyData.canLayAll0 (l.map eK) = true
  | [], _ => rfl
  | k :: r, h => by
    have h1 := lay_okK (h k List.mem_cons_self)
    have h2 := lay_rows fun q hq => h q (List.mem_cons_of_mem _ hq)
    simp [PyData.canLayAll0, PyData.canLay0, eK, h1, h2]
theorem depth_rows : ∀ (l : List (List Str)), PyData.depthAll (l.map eK) ≤ 2
  | [] => by simp [PyData.depthAll]
  | k :: r => by
    have h1 := depth_texts k
    have h2 := depth_rows r
    simp only [List.map_cons, PyData.depthAll]
    omega
theorem shaped_rows {l : List (List Str)} (h : ∀ k ∈ l, okK k = true) : SeqAt.shaped (.list (l.map eK)) = true := by
  unfold SeqAt.shaped
  rw [Bool.and_eq_true, decide_eq_true_eq]
  refine ⟨by simpa [PyData.canLay0] using lay_rows h, ?_⟩
  have := depth_rows l
  simp only [PyData.depth]
  omega
theorem okK_filter {l : List Str} (p : Str → Bool) (h : okK l = true) : okK (l.filter p) = true := List.all_eq_true.mpr fun x hx => List.all_eq_true.mp h x (List.mem_filter.mp hx).1
section
variable {X : Cx} {C : Cfg} {δ : Dl} {a : Expr} {pos p : Pos} {n : Nat}
theorem ev_eqNil {l : List Str} (hr : Room n X.A) (ha : Ev X C δ a (.list (l.map .str))) (ok : okK l = true) : Ev X C δ (.Compare a [.Eq] [.List [] p] pos) (.bool (decide (l = []))) :=
  Ev.cast (ev_eqD hr ha ef_nil.ev (shaped_texts ok) rfl) (by rw [eqv_nilL]; congr 1; simp)
theorem ev_eqNilK {l : List (List Str)} (hr : Room n X.A) (ha : Ev X C δ a (.list (l.map eK))) (ok : ∀ k ∈ l, okK k = true) : Ev X C δ (.Compare a [.Eq] [.List [] p] pos) (.bool (decide (l = []))) :=
  Ev.cast (ev_eqD hr ha ef_nil.ev (shaped_rows ok) rfl) (by rw [eqv_nilL]; congr 1; simp)
theorem et_eqNil {l : List Str} (hr : Room n X.A) (ha : Ev X C δ a (.list (l.map .str))) (ok : okK l = true) : EvT X C δ (.Compare a [.Eq] [.List [] p] pos) (decide (l = [])) :=
  EvT.cast (et_eqD hr ha ef_nil.ev (shaped_texts ok) rfl) (by rw [eqv_nilL]; congr 1; simp)
theorem et_eqNilK {l : List (List Str)} (hr : Room n X.A) (ha : Ev X C δ a (.list (l.map eK))) (ok : ∀ k ∈ l, okK k = true) : EvT X C δ (.Compare a [.Eq] [.List [] p] pos) (decide (l = [])) :=
  EvT.cast (et_eqD hr ha ef_nil.ev (shaped_rows ok) rfl) (by rw [eqv_nilL]; congr 1; simp)
theorem ev_neNilK {l : List (List Str)} (hr : Room n X.A) (ha : Ev X C δ a (.list (l.map eK))) (ok : ∀ k ∈ l, okK k = true) : Ev X C δ (.Compare a [.NotEq] [.List [] p] pos) (.bool (!decide (l = []))) :=
  Ev.cast (ev_neD hr ha ef_nil.ev (shaped_rows ok) rfl) (by rw [eqv_nilL]; congr 2; simp)
end
section
variable {X : Cx} {C : Cfg} {δ : Dl} {e : Expr} {d : PyData} {ds : List PyData} {pos p : Pos} {Φ : VK}
/-- xs.append(e) -/
theorem hs_app (i : Nat) {x : Str} {xp ap : Pos} (he : Ev X C δ e d) (hz : ds.length < sizeLine) (hN : X.N[i]? = some x := by rfl) (hδ : δ[i]? = some (some (.own ds)) := by rfl) (hv : Vis X.env.scope x := by first | exact Or.inl rfl | exact Or.inr (Or.inl rfl))
    (hd : (x == ("__debug__" : Str)) = false := by decide) (hcd : (x == ("__classdict__" : Str)) = false := by decide)
    (hbase : attributeBase (.Name x xp) "append" X.env (eval (.Name x xp) X.env) = eval (.Name x xp) X.env := by rfl)
    (hfew : ((backTo p (starEach [e] X.env)).all (fun x => !x.1) && (backToKw p (keywordEach [] X.env)).all (fun x => x.1.isSome)
      && decide (([e] : List Expr).length + ([] : List Keyword).length + (if ([] : List Keyword).isEmpty then 0 else 1) < 30)) = true := by rfl)
    (hline : (ap.endLine == p.line) = true := by rfl) (hst : starEach [e] X.env = (false, eval e X.env) :: starEach [] X.env := by rfl) (hplain : (backTo p (starEach [] X.env)).any (·.1) = false := by rfl)
    (hs : swapsWith (.Call (.Attribute (.Name x xp) "append" ap) [e] [] p) none pos.line X.env = pure false := by rfl) :
    Hs X (Kn C δ) (.Expr (.Call (.Attribute (.Name x xp) "append" ap) [e] [] p) pos) (Kn C (δ.set i (some (.own (ds ++ [d]))))) Φ :=
  hs_append i he hN hδ hz hv hd hcd (pe_bm PySem.F.plainAttrs_list PySem.F.slot_list_append PySem.F.type_list_append mt_append (pe_var hN hv hd hcd) (pa_cons he pa_nil hst) hbase hfew hline hst hplain) hs
end
section
variable {P : Program} {w : World} {K : PySem.W.Frag} {mg : Str → Option Value} {base : Heap}
theorem sc59 : FnScope ["_law_goods_so", "_law_found", "_law_own", "_law_some_so"] ["_law_goods_so"] (defScope (topS 59)) := ⟨rfl, rfl, rfl, by decide +kernel, rfl, by decide +kernel, by decide +kernel⟩
theorem c_lsets (G : Mg mg) (F : Df K mg "_law_sets" ["_law_goods_so"] (topS 59)) : Cal P w K mg base 1 "_law_sets" (spR 1 Ssubs) [] := by
  refine cal_of F sc59 rfl fun f cdv A outer s H E M hr ds r hS => ?_
  obtain ⟨k, names, rfl, few, rfl⟩ := hS
  have lens : ∀ k, k ≤ names.length → (allSubs (names.take k)).length ≤ 256 := fun k hk => by
    rw [len_allSubs, List.length_take, Nat.min_eq_left hk]
    exact two_pow (by omega)
  refine ho_no (ho_cons (hs_setF (ds := [eK []]) 1 sc59.nd (ef_lst (ea_cons (ev_tup ea_nil) ea_nil))) ?_)
  refine ho_cons (hs_for (xs := names) (en := .str) (is := [2]) (δx := fun k' (_ : Unit) x => [some (.dat (sqD k (names.map .str))), some (.own ((allSubs (names.take k')).map eK)), some (.dat (.str x)), none])
    (fun k' (_ : Unit) => [some (.dat (sqD k (names.map .str))), some (.own ((allSubs (names.take k')).map eK)), none, none]) (fun _ _ => True) () rfl PassesOwn.never trivial (Les.refl _) (ei_sq (nv 0)) (fun ps k' g x hx _ => gn 2 sc59.nd) (fun ps k' g x hx _ => ?_)) ?_
  · have hk : k' < names.length := (List.getElem?_eq_some_iff.mp hx).1
    have l1 := lens k' (Nat.le_of_lt hk)
    refine ho_post (ho_one (hs_setF 1 sc59.nd (ef_cat (nl 1) (ef_1 (xs := allSubs (names.take k')) (en := eK) (f := fun s => eK (s ++ [x])) 3 sc59.nd (ei_seq (nl 1).seq) (fun _ _ _ _ _ y hy => ?_)).lst ?_))) fun σ' H' h => ⟨(), trivial, ?_⟩
    · refine Ev.cast (ev_catT (nv 3) (ev_tup (ea_cons (nv 2) ea_nil)) ?_) ?_
      · have := sub_len hy
        rw [List.length_take] at this
        refine big ?_
        rw [List.length_map]
        show y.length + 1 ≤ 4000
        omega
      · show PyData.tuple _ = PyData.tuple _
        rw [List.map_append]
        rfl
    · rw [List.length_map, List.length_map]
      exact big (by omega)
    · rw [allSubs_next hx, List.map_append, List.map_map]
      exact Kn.les (.keep (.keep (.skip (.refl _)))) _ _ h
  · refine ho_ex fun _ => ho_and fun _ => ?_
    rw [List.take_length]
    refine ho_one (hs_ret (Ev.cast (ef_sorted hr (G.no "sorted" (by decide)) (nl 1) (srtb_eK _) (lay_eK _)).ev ?_))
    show PyData.list _ = PyData.list _
    rw [sortD_srt inj_eK]
    rfl
def Spurse : List PyData → PyData → Prop := fun ds r => ∃ (c : Crew) (k : Bool) (g : List Str), ds = [eCr c, sqD k (g.map .str)] ∧ WfC c ∧ r = eK (heldBy c g)
theorem sc63 : FnScope ["_law_crew_here", "_law_band", "_law_found", "_law_tag", "_law_kit"] ["_law_crew_here", "_law_band"] (defScope (topS 63)) := ⟨rfl, rfl, rfl, by decide +kernel, rfl, by decide +kernel, by decide +kernel⟩
abbrev heldFl (c : Crew) (g : List Str) : List Str := (c.filter fun p => decide (p.1 ∈ g)).flatMap fun p => p.2
theorem heldFl_next {c : Crew} {g : List Str} {k : Nat} {p : Str × List Str} (h : c[k]? = some p) : heldFl (c.take (k + 1)) g = heldFl (c.take k) g ++ (if p.1 ∈ g then p.2 else []) := by
  have e : c.take (k + 1) = c.take k ++ [p] := by rw [List.take_add_one, h]; rfl
  unfold heldFl
  rw [e, List.filter_append, List.flatMap_append]
  by_cases z : p.1 ∈ g <;> simp [z]
theorem c_purse (G : Mg mg) (F : Df K mg "_law_purse" ["_law_crew_here", "_law_band"] (topS 63)) : Cal P w K mg base 1 "_law_purse" (spR 2 Spurse) [] := by
  refine cal_of F sc63 rfl fun f cdv A outer s H E M hr ds r hS => ?_
  obtain ⟨c, kb, g, rfl, Wc, rfl⟩ := hS
  have lens : ∀ k, (heldFl (c.take k) g).length ≤ 40 := fun k => by
    have h1 := flat_len (c := (c.take k).filter fun p => decide (p.1 ∈ g)) fun p hp => Wc.kl p (List.mem_of_mem_take (List.mem_filter.mp hp).1)
    have h2 := List.length_filter_le (fun p : Str × List Str => decide (p.1 ∈ g)) (c.take k)
    have h3 := Wc.cl
    rw [List.length_take] at h2
    show (((c.take k).filter fun p => decide (p.1 ∈ g)).flatMap fun p => p.2).length ≤ 40
    omega
  refine ho_no (ho_cons (hs_setF (ds := []) 2 sc63.nd ef_nil) ?_)
  refine ho_cons (hs_for (xs := c) (en := eH) (is := [3, 4]) (δx := fun k (_ : Unit) p => [some (.dat (eCr c)), some (.dat (sqD kb (g.map .str))), some (.own ((heldFl (c.take k) g).map .str)), some (.dat (.str p.1)), some (.dat (eK p.2))])
    (fun k (_ : Unit) => [some (.dat (eCr c)), some (.dat (sqD kb (g.map .str))), some (.own ((heldFl (c.take k) g).map .str)), none, none]) (fun _ _ => True) () rfl PassesOwn.never trivial (Les.refl _) (ei_T (nv 0)) (fun ps k g x hx _ => gn2 (i := 3) (j := 4) rfl (fun δ d => gn 3 sc63.nd) (fun δ d => gn 4 sc63.nd)) (fun ps k _ p hx _ => ?_)) ?_
  · refine ho_post (ho_one (hs_setF 2 sc63.nd (ef_cat (ds2 := (if p.1 ∈ g then p.2 else []).map .str) (nl 2) (EvF.lst (ef_if (k := decide (p.1 ∈ g)) (et_in (nv 3) (nv 1).sq) (fun e => ?_) fun e => ?_)) ?_))) fun σ' H' h => ⟨(), trivial, ?_⟩
    · rw [if_pos (of_decide_eq_true e)]
      exact ef_list (G.no "list" (by decide)) (nv 4).seqT
    · rw [if_neg (of_decide_eq_false e)]
      exact ef_nil
    · have h1 := lens k
      have h2 : (if p.1 ∈ g then p.2 else []).length ≤ 8 := by
        split
        · exact Wc.kl p (List.mem_of_getElem? hx)
        · exact Nat.zero_le _
      rw [List.length_map, List.length_map]
      exact big (by omega)
    · rw [heldFl_next hx, List.map_append]
      exact Kn.les (.keep (.keep (.keep (.skip (.skip .nil))))) _ _ h
  · refine ho_ex fun _ => ho_and fun _ => ?_
    rw [List.take_length]
    have h1 := lens c.length
    rw [List.take_length] at h1
    exact ho_one (hs_ret (ev_tupL (G.no "tuple" (by decide)) (ef_setTx hr (G.no "sorted" (by decide)) (G.no "set" (by decide)) (nl 2).seq (Nat.lt_of_le_of_lt h1 (by decide))).ev))
theorem sc64 : FnScope ["_law_crew_here", "_law_band", "_law_own"] ["_law_crew_here", "_law_band"] (defScope (topS 64)) := ⟨rfl, rfl, rfl, by decide +kernel, rfl, by decide +kernel, by decide +kernel⟩
theorem c_rest (G : Mg mg) (F : Df K mg "_law_rest" ["_law_crew_here", "_law_band"] (topS 64)) : Cal P w K mg base 1 "_law_rest" (spR 2 Sbut) [] := by
  refine cal_of F sc64 rfl fun f cdv A outer s H E M hr ds r hS => ?_
  obtain ⟨c, g, rfl, rfl⟩ := hS
  refine ho_no (ho_one (hs_ret (Ev.cast (ev_tupL (G.no "tuple" (by decide)) (ef_1t (xs := c) (en := eH) (pr := fun p => !decide (p.1 ∈ g)) (f := fun p => .str p.1) 2 sc64.nd (ei_T (nv 0)) (fun _ _ _ _ _ x _ => ?_) (fun _ _ _ _ _ x _ _ => ?_)).ev) ?_)))
  · exact et_nin (ev_ixT (nv 2) ev_int) (nv 1).seqT
  · exact ev_ixT (nv 2) ev_int
  · show PyData.tuple _ = PyData.tuple _
    unfold butOf people
    rw [List.filter_map, List.map_map]
    rfl
def Slean : List PyData → PyData → Prop := fun ds r => ∃ bands, ds = [eLs bands] ∧ (∀ k ∈ bands, okK k = true) ∧ bands.length ≤ 64 ∧ r = eLs (leanL bands)
theorem sc65 : FnScope ["_law_bands", "_law_found", "_law_band", "_law_own", "_law_tag"] ["_law_bands"] (defScope (topS 65)) := ⟨rfl, rfl, rfl, by decide +kernel, rfl, by decide +kernel, by decide +kernel⟩
abbrev leanF (l : List (Nat × List Str)) : List (List Str) := l.foldl (fun f p => leanStep f p.2) []
theorem leanStep_sub {f : List (List Str)} {o x : List Str} (h : x ∈ leanStep f o) : x ∈ f ∨ x = o := by
  unfold leanStep at h
  split at h
  · exact (List.mem_append.mp h).imp id fun z => List.mem_singleton.mp z
  · exact .inl h
theorem leanF_sub : ∀ {l : List (Nat × List Str)} {f : List (List Str)} {x : List Str}, x ∈ l.foldl (fun f p => leanStep f p.2) f → x ∈ f ∨ x ∈ l.map fun p => p.2
  | [], _, _, h => .inl h
  | p :: r, f, x, h => by
    rcases leanF_sub (l := r) h with z | z
    · rcases leanStep_sub z with y | y
      · exact .inl y
      · exact .inr (by rw [y]; exact List.mem_cons_self)
    · exact .inr (List.mem_cons_of_mem _ z)
theorem leanF_len : ∀ (l : List (Nat × List Str)) (f : List (List Str)), (l.foldl (fun f p => leanStep f p.2) f).length ≤ f.length + l.length
  | [], _ => Nat.le_refl _
  | p :: r, f => by
    have h1 := leanF_len r (leanStep f p.2)
    have h2 : (leanStep f p.2).length ≤ f.length + 1 := by
      unfold leanStep
      split
      · rw [List.length_append]; exact Nat.le_refl _
      · exact Nat.le_succ _
    rw [List.foldl_cons, List.length_cons]
    omega
theorem leanF_next {l : List (Nat × List Str)} {k : Nat} {p : Nat × List Str} (h : l[k]? = some p) : leanF (l.take (k + 1)) = leanStep (leanF (l.take k)) p.2 := by
  have e : l.take (k + 1) = l.take k ++ [p] := by rw [List.take_add_one, h]; rfl
  unfold leanF
  rw [e, List.foldl_append]
  rfl
theorem c_lean (G : Mg mg) (F : Df K mg "_law_lean" ["_law_bands"] (topS 65)) : Cal P w K mg base 1 "_law_lean" (spR 1 Slean) [] := by
  refine cal_of F sc65 rfl fun f cdv A outer s H E M hr ds r hS => ?_
  obtain ⟨bands, rfl, ok, few, rfl⟩ := hS
  have inB : ∀ p ∈ byLen bands, okK p.2 = true := fun p hp => by
    obtain ⟨o, ho, e⟩ := List.mem_map.mp (mem_srt.mp hp)
    rw [← e]
    exact ok o ho
  have okF : ∀ k, ∀ o ∈ leanF ((byLen bands).take k), okK o = true := fun k o ho => by
    rcases leanF_sub ho with z | z
    · cases z
    · obtain ⟨p, hp, rfl⟩ := List.mem_map.mp z
      exact inB p (List.mem_of_mem_take hp)
  have lenF : ∀ k, (leanF ((byLen bands).take k)).length ≤ 64 := fun k => by
    have h1 := leanF_len ((byLen bands).take k) []
    have h2 : (byLen bands).length = bands.length := by unfold byLen; rw [len_srt, List.length_map]
    rw [List.length_take, h2] at h1
    simp only [List.length_nil] at h1
    show ((((byLen bands).take k).foldl (fun f p => leanStep f p.2) [])).length ≤ 64
    omega
  refine ho_no (ho_cons (hs_setF (ds := []) 1 sc65.nd ef_nil) ?_)
  refine ho_cons (hs_for (xs := byLen bands) (en := eP) (is := [2]) (δx := fun k (_ : Unit) p => [some (.dat (eLs bands)), some (.own ((leanF ((byLen bands).take k)).map eK)), some (.dat (eP p)), none, none])
    (fun k (_ : Unit) => [some (.dat (eLs bands)), some (.own ((leanF ((byLen bands).take k)).map eK)), none, none, none]) (fun _ _ => True) () rfl PassesOwn.never trivial (Les.refl _) (ei_L (ds := (byLen bands).map eP) ?_) (fun ps k g x hx _ => gn 2 sc65.nd) (fun ps k _ p hx _ => ?_)) ?_
  · refine Ev.cast (ef_sorted (ds := (bands.map fun o => (o.length, o)).map eP) hr (G.no "sorted" (by decide)) (EvF.lst ?_) (srtb_eP _) (pl_eP _)).ev ?_
    · refine EvF.cast (ef_1 (xs := bands) (en := eK) (f := fun o => eP (o.length, o)) 3 sc65.nd (ei_L (nv 0)) (fun _ _ _ _ _ x _ => ?_)) ?_
      · refine ev_tup (ea_cons (Ev.cast (ev_len (G.no "len" (by decide)) (nv 3).seqT) ?_) (ea_cons (nv 3) ea_nil))
        rw [List.length_map]
      · rw [List.map_map]
        rfl
    · show PyData.list _ = PyData.list _
      rw [sortD_srt inj_eP]
      rfl
  · have hp := inB p (List.mem_of_getElem? hx)
    refine ho_one (hs_if (k := decide (((leanF ((byLen bands).take k)).filter fun o => decide ((o.filter fun t => !decide (t ∈ p.2)) = [])) = [])) (et_eqNilK hr ?_ fun o ho => okF k o (List.mem_filter.mp ho).1) (fun e => ?_) fun e => ?_)
    · refine (ef_1t (xs := leanF ((byLen bands).take k)) (en := eK) (pr := fun o => decide ((o.filter fun t => !decide (t ∈ p.2)) = [])) (f := eK) 3 sc65.nd (ei_seq (nl 1).seq) (fun s H Cc cl fp o ho => ?_) (fun _ _ _ _ _ o ho _ => ?_)).ev
      · refine et_eqNil hr ?_ (okK_filter _ (okF k o ho))
        refine (ef_1t (xs := o) (en := .str) (pr := fun t => !decide (t ∈ p.2)) (f := .str) 4 sc65.nd (ei_T (nv 3)) (fun s H Cc cl fp t ht => ?_) (fun _ _ _ _ _ o ho _ => ?_)).ev
        · exact et_nin (nv 4) (Ev.seqT (ev_ixT (nv 2) ev_int))
        · exact nv 4
      · exact nv 3
    · refine ho_post (ho_one (hs_app 1 (ev_ixT (nv 2) ev_int) ?_)) fun σ' H' h => ⟨(), trivial, ?_⟩
      · have := lenF k
        rw [List.length_map, sizeLine_eq]
        omega
      · rw [leanF_next hx]
        unfold leanStep
        rw [if_pos (of_decide_eq_true e), List.map_append]
        exact Kn.les (.keep (.keep (.skip (.refl _)))) _ _ h
    · refine ho_nil fun σ' H' h => ⟨(), trivial, ?_⟩
      rw [leanF_next hx]
      unfold leanStep
      rw [if_neg (of_decide_eq_false e)]
      exact Kn.les (.keep (.keep (.skip (.refl _)))) _ _ h
  · refine ho_ex fun _ => ho_and fun _ => ?_
    rw [List.take_length]
    refine ho_one (hs_ret (Ev.cast (ef_sorted hr (G.no "sorted" (by decide)) (nl 1) (srtb_eK _) (lay_eK _)).ev ?_))
    show PyData.list _ = PyData.list _
    rw [sortD_srt inj_eK]
    rfl
end
end Kl
/-! W8: the law's own defs: meet, wanted, same. -/
namespace Kl
open PySem PySem.Spec PyProof.Rows L2 PySem.W
open C8 (Cal pe_c)
theorem lay_ints : ∀ l : List Int, PyData.canLayAll0 (l.map .int) = true
  | [] => rfl
  | _ :: r => by simp [PyData.canLayAll0, PyData.canLay0, lay_ints r]
theorem shaped_ints (l : List Int) : SeqAt.shaped (.list (l.map .int)) = true := by
  unfold SeqAt.shaped
  rw [Bool.and_eq_true, decide_eq_true_eq]
  refine ⟨by simpa [PyData.canLay0] using lay_ints l, ?_⟩
  have := depth_ints l
  simp only [PyData.depth]
  omega
theorem okK_sub {l k : List Str} (h : okK l = true) (s : ∀ x ∈ k, x ∈ l) : okK k = true := List.all_eq_true.mpr fun x hx => List.all_eq_true.mp h x (s x hx)
section
variable {P : Program} {w : World} {K : PySem.W.Frag} {mg : Str → Option Value} {base : Heap}
def meetP (lots : List (List Str)) (band : List Str) : Bool := decide ((lots.filter fun own => decide ((own.filter fun t => decide (t ∈ band)) = [])) = [])
def Smeet : List PyData → PyData → Prop := fun ds r => ∃ lots tags, ds = [eLs lots, .list (tags.map .str)] ∧ (∀ k ∈ lots, okK k = true) ∧ okK tags = true ∧ tags.length ≤ 5 ∧ r = eLs (meetL lots tags)
theorem sc70 : FnScope ["_law_lots_so", "_law_tags", "_law_fine", "_law_band", "_law_own", "_law_tag"] ["_law_lots_so", "_law_tags"] (defScope (topS 70)) := ⟨rfl, rfl, rfl, by decide +kernel, rfl, by decide +kernel, by decide +kernel⟩
theorem filter_next {α : Type} {p : α → Bool} {l : List α} {k : Nat} {x : α} (h : l[k]? = some x) : (l.take (k + 1)).filter p = (l.take k).filter p ++ (if p x = true then [x] else []) := by
  have e : l.take (k + 1) = l.take k ++ [x] := by rw [List.take_add_one, h]; rfl
  rw [e, List.filter_append]
  cases z : p x <;> simp [z]
theorem c_meet (G : Mg mg) (F : Df K mg "_law_meet" ["_law_lots_so", "_law_tags"] (topS 70)) (C1 : Cal P w K mg base 1 "_law_sets" (spR 1 Ssubs) []) (C2 : Cal P w K mg base 1 "_law_lean" (spR 1 Slean) []) : Cal P w K mg base 2 "_law_meet" (spR 2 Smeet) [] := by
  refine cal_of F sc70 rfl fun f cdv A outer s H E M hr ds r hS => ?_
  obtain ⟨lots, tags, rfl, okL, okT, few, rfl⟩ := hS
  have l32 : (subs tags).length ≤ 32 := by
    rw [len_subs]
    exact Nat.pow_le_pow_right (by decide) few
  refine ho_no (ho_cons (hs_setF (ds := []) 2 sc70.nd ef_nil) ?_)
  refine ho_cons (hs_for (xs := subs tags) (en := eK) (is := [3]) (δx := fun k (_ : Unit) b => [some (.dat (eLs lots)), some (.dat (.list (tags.map .str))), some (.own ((((subs tags).take k).filter (meetP lots)).map eK)), some (.dat (eK b)), none, none])
    (fun k (_ : Unit) => [some (.dat (eLs lots)), some (.dat (.list (tags.map .str))), some (.own ((((subs tags).take k).filter (meetP lots)).map eK)), none, none, none]) (fun _ _ => True) () rfl PassesOwn.never trivial (Les.refl _)
    (ei_L (ds := (subs tags).map eK) (ev_call C1 hr (ea_cons (nv 1) ea_nil) ⟨false, tags, rfl, Nat.le_trans few (by decide), rfl⟩)) (fun ps k g x hx _ => gn 3 sc70.nd) (fun ps k _ b hx _ => ?_)) ?_
  · refine ho_one (hs_if (k := meetP lots b) (et_eqNilK hr ?_ fun o ho => okL o (List.mem_filter.mp ho).1) (fun e => ?_) fun e => ?_)
    · refine (ef_1t (xs := lots) (en := eK) (pr := fun o => decide ((o.filter fun t => decide (t ∈ b)) = [])) (f := eK) 4 sc70.nd (ei_L (nv 0)) (fun s H Cc cl fp o ho => ?_) (fun _ _ _ _ _ o ho _ => ?_)).ev
      · refine et_eqNil hr ?_ (okK_filter _ (okL o ho))
        refine (ef_1t (xs := o) (en := .str) (pr := fun t => decide (t ∈ b)) (f := .str) 5 sc70.nd (ei_T (nv 4)) (fun s H Cc cl fp t ht => ?_) (fun _ _ _ _ _ o ho _ => ?_)).ev
        · exact et_in (nv 5) (nv 3).seqT
        · exact nv 5
      · exact nv 4
    · refine ho_post (ho_one (hs_app 2 (nv 3) ?_)) fun σ' H' h => ⟨(), trivial, ?_⟩
      · rw [List.length_map, sizeLine_eq]
        have := List.length_filter_le (meetP lots) ((subs tags).take k)
        rw [List.length_take] at this
        omega
      · rw [filter_next hx, if_pos e, List.map_append]
        exact Kn.les (.keep (.keep (.keep (.skip (.refl _))))) _ _ h
    · refine ho_nil fun σ' H' h => ⟨(), trivial, ?_⟩
      rw [filter_next hx, if_neg (by rw [e]; simp), List.append_nil]
      exact Kn.les (.keep (.keep (.keep (.skip (.refl _))))) _ _ h
  · refine ho_ex fun _ => ho_and fun _ => ?_
    rw [List.take_length]
    refine ho_freeze 2 rfl ?_
    refine ho_one (hs_ret (ev_call C2 hr (ea_cons (nv 2) ea_nil) ⟨(subs tags).filter (meetP lots), rfl, fun k hk => okK_sub okT fun x hx => (mem_subs.mp (List.mem_filter.mp hk).1).subset hx, Nat.le_trans (List.length_filter_le _ _) (Nat.le_trans l32 (by decide)), rfl⟩))
def wantP (kit every band own : List Str) : Bool := decide ((moreOf (moreOf own kit) every) = []) && (decide (moreOf own kit = []) || !decide (band = []))
def wantD (opens : List (List Str)) (kit every band : List Str) : PyData := if wantL opens kit every band = [] then .none else .int (minI (wantL opens kit every band))
def SlWanted : List PyData → PyData → Prop := fun ds r => ∃ opens c band, ds = [eTs opens, eCr c, eK band] ∧ WfC c ∧ (∀ k ∈ opens, okK k = true) ∧ okK band = true ∧ opens.length ≤ 64 ∧ r = wantD opens (heldBy c band) (heldBy c (people c)) band
theorem sc71 : FnScope ["_law_opens_so", "_law_crew_here", "_law_band", "_law_kit", "_law_found", "_law_every", "_law_own", "_law_more", "_law_ring"] ["_law_opens_so", "_law_crew_here", "_law_band"] (defScope (topS 71)) := ⟨rfl, rfl, rfl, by decide +kernel, rfl, by decide +kernel, by decide +kernel⟩
theorem c_lwanted (G : Mg mg) (F : Df K mg "_law_wanted" ["_law_opens_so", "_law_crew_here", "_law_band"] (topS 71)) (C1 : Cal P w K mg base 1 "_law_purse" (spR 2 Spurse) []) : Cal P w K mg base 2 "_law_wanted" (spR 3 SlWanted) [] := by
  refine cal_of F sc71 rfl fun f cdv A outer s H E M hr ds r hS => ?_
  obtain ⟨opens, c, band, rfl, Wc, okO, okB, few, rfl⟩ := hS
  have nx : ∀ k own, opens[k]? = some own → (((opens.take (k + 1)).filter (wantP (heldBy c band) (heldBy c (people c)) band)).map fun own => ((moreOf own (heldBy c band)).length : Int)) = (((opens.take k).filter (wantP (heldBy c band) (heldBy c (people c)) band)).map fun own => ((moreOf own (heldBy c band)).length : Int)) ++ (if wantP (heldBy c band) (heldBy c (people c)) band own = true then [((moreOf own (heldBy c band)).length : Int)] else []) := fun k own h => by
    rw [filter_next h, List.map_append]
    split <;> rfl
  refine ho_no (ho_cons (hs_par' 3 4 sc71.nd (ee_d (ev_call C1 hr (ea_cons (nv 1) (ea_cons (nv 2) ea_nil)) ⟨c, true, band, rfl, Wc, rfl⟩)) (ee_o (ds := []) ef_nil)) ?_)
  refine ho_cons (hs_set (d := eK (heldBy c (people c))) 5 sc71.nd (ev_call C1 hr (ea_cons (nv 1) (ea_cons (d := .list ((people c).map .str)) ?_ ea_nil)) ⟨c, false, people c, rfl, Wc, rfl⟩)) ?_
  · refine Ev.cast (ef_1 (xs := c) (en := eH) (f := fun p => .str p.1) 6 sc71.nd (ei_T (nv 1)) (fun _ _ _ _ _ x _ => ?_)).ev ?_
    · exact ev_ixT (nv 6) ev_int
    · show PyData.list _ = PyData.list _
      unfold people
      rw [List.map_map]
      rfl
  refine ho_cons (hs_for (xs := opens) (en := eK) (is := [6]) (δx := fun k (_ : Unit) own => [some (.dat (eTs opens)), some (.dat (eCr c)), some (.dat (eK band)), some (.dat (eK (heldBy c band))), some (.own ((((opens.take k).filter (wantP (heldBy c band) (heldBy c (people c)) band)).map fun own => ((moreOf own (heldBy c band)).length : Int)).map .int)), some (.dat (eK (heldBy c (people c)))), some (.dat (eK own)), none, none])
    (fun k (_ : Unit) => [some (.dat (eTs opens)), some (.dat (eCr c)), some (.dat (eK band)), some (.dat (eK (heldBy c band))), some (.own ((((opens.take k).filter (wantP (heldBy c band) (heldBy c (people c)) band)).map fun own => ((moreOf own (heldBy c band)).length : Int)).map .int)), some (.dat (eK (heldBy c (people c)))), none, none, none]) (fun _ _ => True) () rfl PassesOwn.never trivial (Les.refl _)
    (ei_T (nv 0)) (fun ps k g x hx _ => gn 6 sc71.nd) (fun ps k _ own hx _ => ?_)) ?_
  · have okO' := okO own (List.mem_of_getElem? hx)
    refine ho_cons (hs_1t (xs := own) (en := .str) (pr := fun k => !decide (k ∈ heldBy c band)) (f := .str) 7 8 sc71.nd (ei_T (nv 6)) (fun _ _ _ _ _ x _ => et_nin (nv 8) (nv 3).seqT) (fun _ _ _ _ _ x _ _ => nv 8)) ?_
    refine ho_freeze 7 rfl ?_
    refine ho_one (hs_if (k := wantP (heldBy c band) (heldBy c (people c)) band own) (EvW.t (ew_and (et_eqNil (l := moreOf (moreOf own (heldBy c band)) (heldBy c (people c))) hr ?_ (okK_filter _ (okK_filter _ okO'))) fun _ => ew_and1 (EvW.t (ew_or (et_eqNil (l := moreOf own (heldBy c band)) hr (nv 7) (okK_filter _ okO')) fun _ => ew_or1 (EvT.cast (et_neD hr (nv 2) (ev_tup ea_nil) (shaped_eK okB) rfl) ?_))))) (fun e => ?_) fun e => ?_)
    · refine (ef_1t (xs := moreOf own (heldBy c band)) (en := .str) (pr := fun k => !decide (k ∈ heldBy c (people c))) (f := .str) 8 sc71.nd (ei_L (nv 7)) (fun _ _ _ _ _ x _ => ?_) (fun _ _ _ _ _ x _ _ => ?_)).ev
      · exact et_nin (nv 8) (nv 5).seqT
      · exact nv 8
    · exact congrArg not (eqv_eK band [])
    · refine ho_post (ho_one (hs_app 4 (ev_len (ds := (moreOf own (heldBy c band)).map .str) (G.no "len" (by decide)) (Ev.seqL (nv 7))) ?_)) fun σ' H' h => ⟨(), trivial, ?_⟩
      · rw [List.length_map, List.length_map, sizeLine_eq]
        have := List.length_filter_le (wantP (heldBy c band) (heldBy c (people c)) band) (opens.take k)
        rw [List.length_take] at this
        omega
      · rw [nx k own hx, if_pos e, List.map_append]
        rw [List.length_map] at h
        exact Kn.les (.keep (.keep (.keep (.keep (.keep (.keep (.skip (.skip (.skip .nil))))))))) _ _ h
    · refine ho_nil fun σ' H' h => ⟨(), trivial, ?_⟩
      rw [nx k own hx, if_neg (by rw [e]; simp), List.append_nil]
      exact Kn.les (.keep (.keep (.keep (.keep (.keep (.keep (.skip (.skip (.skip .nil))))))))) _ _ h
  · refine ho_ex fun _ => ho_and fun _ => ?_
    rw [List.take_length]
    refine ho_freeze 4 rfl ?_
    have e0 : ((opens.filter (wantP (heldBy c band) (heldBy c (people c)) band)).map fun own => ((moreOf own (heldBy c band)).length : Int)) = wantL opens (heldBy c band) (heldBy c (people c)) band := rfl
    rw [e0]
    refine ho_one (hs_ret (ev_if (k := !decide (wantL opens (heldBy c band) (heldBy c (people c)) band = [])) (EvT.cast (et_neD hr (nv 4) ef_nil.ev (shaped_ints _) rfl) ?_) (fun e => ?_) fun e => ?_))
    · rw [eqv_nilL]
      congr 2
      simp
    · have ne : wantL opens (heldBy c band) (heldBy c (people c)) band ≠ [] := by simpa using e
      unfold wantD
      rw [if_neg ne]
      exact ev_minL (G.no "min" (by decide)) rfl (nv 4) ne
    · have eq : wantL opens (heldBy c band) (heldBy c (people c)) band = [] := by simpa using e
      unfold wantD
      rw [if_pos eq]
      exact ev_non
end
end Kl
/-! W9: the law's same. -/
namespace Kl
open PySem PySem.Spec PyProof.Rows L2 PySem.W
open C8 (Cal pe_c)
def flatD : PyData → Bool
  | .none => true
  | .bool _ => true
  | .int _ => true
  | .str x => PyData.strOk x
  | _ => false
def lev : Nat → PyData → Bool
  | 0, d => flatD d
  | k + 1, .list l => l.all (lev k)
  | k + 1, .tuple l => l.all (lev k)
  | _ + 1, d => flatD d
theorem lev_flat {d : PyData} (h : flatD d = true) : ∀ k, lev k d = true
  | 0 => h
  | k + 1 => by cases d <;> simp_all [flatD, lev]
theorem flat_shaped {d : PyData} (h : flatD d = true) : SeqAt.shaped d = true := by
  cases d <;> simp_all [flatD, SeqAt.shaped, PyData.canLay0, PyData.depth]
theorem eqv_flat {d : PyData} (h : flatD d = true) : PyData.eqv d d = true := by
  cases d <;> simp_all [flatD, PyData.eqv]
theorem zip_self : ∀ l : List PyData, (l.zip l).map (fun p => PyData.tuple [p.1, p.2]) = l.map fun d => .tuple [d, d]
  | [] => rfl
  | x :: r => by rw [List.zip_cons_cons, List.map_cons, List.map_cons, zip_self r]
def Ssame (k : Nat) : List PyData → PyData → Prop := fun ds r => ∃ d, ds = [d, d] ∧ lev k d = true ∧ r = .bool true
section
variable {P : Program} {w : World} {K : PySem.W.Frag} {mg : Str → Option Value} {base : Heap}
theorem sc58 : FnScope ["_law_mine", "_law_due", "_law_a_so", "_law_b_so"] ["_law_mine", "_law_due"] (defScope (topS 58)) := ⟨rfl, rfl, rfl, by decide +kernel, rfl, by decide +kernel, by decide +kernel⟩
theorem kb_flat {d : PyData} (h : flatD d = true) : kitB (tyS d) "list" = some false ∧ kitB (tyS d) "tuple" = some false ∧ notDic d = true := by
  cases d with
  | none => exact ⟨by decide +kernel, by decide +kernel, rfl⟩
  | bool b => exact ⟨by show kitB "bool" "list" = _; decide +kernel, by show kitB "bool" "tuple" = _; decide +kernel, rfl⟩
  | int i => exact ⟨by show kitB "int" "list" = _; decide +kernel, by show kitB "int" "tuple" = _; decide +kernel, rfl⟩
  | str x => exact ⟨by show kitB "str" "list" = _; decide +kernel, by show kitB "str" "tuple" = _; decide +kernel, rfl⟩
  | list l => cases h
  | tuple l => cases h
  | dict l => cases h
/-- is it None, a truth value or a text -/
def isBS : PyData → Bool × Bool
  | .bool _ => (true, false)
  | .str _ => (false, true)
  | _ => (false, false)
theorem kb_bs {d : PyData} (h : flatD d = true) : kitB (tyS d) "bool" = some (isBS d).1 ∧ kitB (tyS d) "str" = some (isBS d).2 := by
  cases d with
  | none => exact ⟨by show kitB "NoneType" "bool" = some false; decide +kernel, by show kitB "NoneType" "str" = some false; decide +kernel⟩
  | bool b => exact ⟨by show kitB "bool" "bool" = some true; decide +kernel, by show kitB "bool" "str" = some false; decide +kernel⟩
  | int i => exact ⟨by show kitB "int" "bool" = some false; decide +kernel, by show kitB "int" "str" = some false; decide +kernel⟩
  | str x => exact ⟨by show kitB "str" "bool" = some false; decide +kernel, by show kitB "str" "str" = some true; decide +kernel⟩
  | list l => cases h
  | tuple l => cases h
  | dict l => cases h
theorem kb_ii : kitB "int" "int" = some true := by decide +kernel
theorem kb_ib : kitB "int" "bool" = some false := by decide +kernel
theorem same_flat (G : Mg mg) (F : Df K mg "_law_same" ["_law_mine", "_law_due"] (topS 58)) {f : Addr} {cdv : Value} {A : Around} {outer : List Env} {s : Shared} {H : Hp} {E : XK} {M : List Addr} {k : Nat} (hr : Room k (A.deeper (envOfC "_law_same" (defScope (topS 58)) s.heap.objs.size f cdv))) {d : PyData} (fl : flatD d = true) :
    Ho (cxOf CX0 P w K mg base ["_law_mine", "_law_due", "_law_a_so", "_law_b_so"] "_law_same" (defScope (topS 58)) f cdv A outer s H E).nox (Kn ⟨K, H, M, [], []⟩ (dl ["_law_mine", "_law_due", "_law_a_so", "_law_b_so"] [d, d])) (defBody (topS 58)) No (Rt ⟨K, H, M, [], []⟩ (.bool true)) := by
  obtain ⟨k1, k2, nd⟩ := kb_flat fl
  obtain ⟨k3, k4⟩ := kb_bs fl
  have gi := G.no "isinstance" (by decide)
  have gb := G.no "bool" (by decide)
  have bb : bootBuiltins "bool" = some (.type "bool") := by decide +kernel
  have bi : bootBuiltins "int" = some (.type "int") := by decide +kernel
  refine ho_ifr (k := false || false) (et_v (ev_isi2 (d := d) (T1 := "list") (T2 := "tuple") gi (G.no "list" (by decide)) (G.no "tuple" (by decide)) (by decide +kernel) (by decide +kernel) (nv 1) nd k1 k2)) (fun z => nomatch z) fun _ => ?_
  refine ho_ifr (k := isN d || ((isBS d).1 || (isBS d).2)) (EvW.t (ew_or (et_isN (d := d) (nv 1)) fun _ => ew_or1 (et_v (ev_isi2 (d := d) (T1 := "bool") (T2 := "str") gi gb (G.no "str" (by decide)) bb (by decide +kernel) (nv 1) nd k3 k4)))) (fun _ => ?_) fun e => ?_
  · refine ho_one (hs_ret (ev_and (k := true) (k' := true && true) (Ev.cast (ev_eqD (d1 := d) (d2 := d) hr (nv 0) (nv 1) (flat_shaped fl) (flat_shaped fl)) (by rw [eqv_flat fl])) fun _ => ev_and (k := true) (k' := true) (Ev.cast (ev_eqD (d1 := .bool (isBS d).1) (d2 := .bool (isBS d).1) hr (ev_isi (d := d) (T := "bool") gi gb bb (nv 0) nd k3) (ev_isi (d := d) (T := "bool") gi gb bb (nv 1) nd k3) rfl rfl) ?_) fun _ => ev_one (Ev.cast (ev_eqD (d1 := .bool (isN d)) (d2 := .bool (isN d)) hr (ev_isN (d := d) (nv 0)) (ev_isN (d := d) (nv 1)) rfl rfl) ?_)))
    · simp [PyData.eqv]
    · simp [PyData.eqv]
  · cases d with
    | none => simp [isN] at e
    | bool b => simp [isBS] at e
    | str x => simp [isBS] at e
    | list l => cases fl
    | tuple l => cases fl
    | dict l => cases fl
    | int i =>
      refine ho_one (hs_ret (ev_and (k := true) (k' := !false && true) (ev_isi (d := .int i) (T := "int") gi (G.no "int" (by decide)) bi (nv 0) rfl kb_ii) fun _ => ev_and (k := !false) (k' := true) (ev_not (ev_isi (d := .int i) (T := "bool") gi gb bb (nv 0) rfl kb_ib)) fun _ => ev_one (Ev.cast (ev_eqD (d1 := .int i) (d2 := .int i) hr (nv 0) (nv 1) rfl rfl) ?_)))
      simp [PyData.eqv]
theorem kb_sq (k : Bool) : kitB (tyS (sqD k [])) "list" = some (!k) ∧ kitB (tyS (sqD k [])) "tuple" = some k := by
  cases k
  · exact ⟨kb_ll, kb_lt⟩
  · exact ⟨kb_tl, kb_tt⟩
theorem tyS_sq (k : Bool) (l : List PyData) : tyS (sqD k l) = tyS (sqD k []) := by cases k <;> rfl
theorem c_same (G : Mg mg) (F : Df K mg "_law_same" ["_law_mine", "_law_due"] (topS 58)) : ∀ k, Cal P w K mg base (k + 1) "_law_same" (spR 2 (Ssame k)) []
  | 0 => by
    refine cal_of F sc58 rfl fun f cdv A outer s H E M hr ds r hS => ?_
    obtain ⟨d, rfl, h, rfl⟩ := hS
    exact ho_no (same_flat G F hr h)
  | k + 1 => by
    have IH := c_same G F k
    refine cal_of F sc58 rfl fun f cdv A outer s H E M hr ds r hS => ?_
    obtain ⟨d, rfl, h, rfl⟩ := hS
    have gi := G.no "isinstance" (by decide)
    have gl := G.no "list" (by decide)
    have gt := G.no "tuple" (by decide)
    have bl : bootBuiltins "list" = some (.type "list") := by decide +kernel
    have bt : bootBuiltins "tuple" = some (.type "tuple") := by decide +kernel
    have main : ∀ (q : Bool) (l : List PyData), l.all (lev k) = true → Ho (cxOf CX0 P w K mg base ["_law_mine", "_law_due", "_law_a_so", "_law_b_so"] "_law_same" (defScope (topS 58)) f cdv A outer s H E).nox (Kn ⟨K, H, M, [], []⟩ (dl ["_law_mine", "_law_due", "_law_a_so", "_law_b_so"] [sqD q l, sqD q l])) (defBody (topS 58)) No (Rt ⟨K, H, M, [], []⟩ (.bool true)) := fun q l hl => by
      have k1 : kitB (tyS (sqD q l)) "list" = some (!q) := by rw [tyS_sq]; exact (kb_sq q).1
      have k2 : kitB (tyS (sqD q l)) "tuple" = some q := by rw [tyS_sq]; exact (kb_sq q).2
      have nd : notDic (sqD q l) = true := by cases q <;> rfl
      refine ho_ifr (k := !q || q) (et_v (ev_isi2 (d := sqD q l) (T1 := "list") (T2 := "tuple") gi gl gt bl bt (nv 1) nd k1 k2)) (fun _ => ?_) (fun e => by cases q <;> cases e)
      refine ho_ifr (k := false || false) (EvW.t (ew_or (k := false) (EvT.cast (et_neD (d1 := .bool (!q)) (d2 := .bool (!q)) hr (ev_isi (d := sqD q l) (T := "list") gi gl bl (nv 0) nd k1) (ev_isi (d := sqD q l) (T := "list") gi gl bl (nv 1) nd k1) rfl rfl) ?_) fun _ => ew_or1 (EvT.cast (et_neD (d1 := .bool q) (d2 := .bool q) hr (ev_isi (d := sqD q l) (T := "tuple") gi gt bt (nv 0) nd k2) (ev_isi (d := sqD q l) (T := "tuple") gi gt bt (nv 1) nd k2) rfl rfl) ?_))) (fun z => nomatch z) fun _ => ?_
      · simp [PyData.eqv]
      · simp [PyData.eqv]
      · refine ho_one (hs_ret (ev_and (k := true) (k' := true) (Ev.cast (ev_eqD (d1 := .int (l.length : Nat)) (d2 := .int (l.length : Nat)) hr (ev_len (G.no "len" (by decide)) (Ev.sq (ds := l) (k := q) (nv 0))) (ev_len (G.no "len" (by decide)) (Ev.sq (ds := l) (k := q) (nv 1))) rfl rfl) ?_) fun _ => ev_one (Ev.cast (ev_all (bs := l.map fun _ => true) (G.no "all" (by decide)) rfl ?_) ?_)))
        · simp [PyData.eqv]
        · refine Ev.cast (ef_2 (xs := l) (e1 := fun d => d) (e2 := fun d => d) (f := fun _ => .bool true) 2 3 sc58.nd ?_ (fun _ _ _ _ _ x hx => ?_)).ev ?_
          · exact EvI.cast (ei_zip q q (G.no "zip" (by decide)) (nv 0) (nv 1)) (zip_self l)
          · exact ev_call IH hr (ea_cons (nv 2) (ea_cons (nv 3) ea_nil)) ⟨x, rfl, List.all_eq_true.mp hl x hx, rfl⟩ (Nat.le_refl _)
          · rw [List.map_map]
            rfl
        · rw [List.all_map]
          congr 1
          exact List.all_eq_true.mpr fun _ _ => rfl
    cases d with
    | list l => exact ho_no (main false l (by simpa [lev] using h))
    | tuple l => exact ho_no (main true l (by simpa [lev] using h))
    | none => exact ho_no (same_flat G F hr (by simpa [lev] using h))
    | bool b => exact ho_no (same_flat G F hr (by simpa [lev] using h))
    | int i => exact ho_no (same_flat G F hr (by simpa [lev] using h))
    | str x => exact ho_no (same_flat G F hr (by simpa [lev] using h))
    | dict x => simp [lev, flatD] at h
end
end Kl
/-! W10: the law's case. -/
namespace Kl
open PySem PySem.Spec PyProof.Rows L2 PySem.W
open C8 (Cal pe_c)
section
variable {X : Cx} {C : Cfg} {δ : Dl} {a b c e tg : Expr} {d d1 d2 d3 d4 : PyData} {pos p : Pos} {Φ : VK} {is : List Nat} {δ' : Dl}
/-- target = data -/
theorem hs_asg (he : Ev X C δ e d) (hg : EvG X C δ tg d δ' is) (hs : swapsWithSole [tg] e pos.line X.env = pure false := by rfl) (hw : swappedStores [tg] e X.env = pure none := by rfl) (h1 : (assignEach [tg] X.env).map (·.2) = [assign tg X.env] := by rfl) :
    Hs X (Kn C δ) (.Assign [tg] e pos) (Kn C δ') Φ :=
  (ps_asg he hg hs hw h1).imp fun D σ H ⟨⟨M, ok⟩, q, _⟩ => ⟨M, ok, fun v H' sm s r => ⟨M, ok.mono s, r, fun σ' o ok' => q σ' H' ⟨M, ok'⟩⟩⟩
theorem gn4 {i j k l : Nat} {ta tb tc td : Expr} {kt : Nat} {pt : Pos} (hc : X.calm = true) (h1 : ∀ δ d, EvG X C δ ta d (δ.set i (some (.dat d))) [i]) (h2 : ∀ δ d, EvG X C δ tb d (δ.set j (some (.dat d))) [j]) (h3 : ∀ δ d, EvG X C δ tc d (δ.set k (some (.dat d))) [k]) (h4 : ∀ δ d, EvG X C δ td d (δ.set l (some (.dat d))) [l])
    (s1 : (assignEach [ta, tb, tc, td] X.env).map (·.2) = assign ta X.env :: (assignEach [tb, tc, td] X.env).map (·.2) := by rfl) (s2 : (assignEach [tb, tc, td] X.env).map (·.2) = assign tb X.env :: (assignEach [tc, td] X.env).map (·.2) := by rfl) (s3 : (assignEach [tc, td] X.env).map (·.2) = assign tc X.env :: (assignEach [td] X.env).map (·.2) := by rfl) (s4 : (assignEach [td] X.env).map (·.2) = assign td X.env :: (assignEach [] X.env).map (·.2) := by rfl)
    (hn : (assignEach [ta, tb, tc, td] X.env).length = 4 := by rfl) (hst : (assignEach [ta, tb, tc, td] X.env).findIdx? (·.1) = none := by rfl) :
    EvG X C δ (.Tuple [ta, tb, tc, td] kt pt) (.tuple [d1, d2, d3, d4]) ((((δ.set i (some (.dat d1))).set j (some (.dat d2))).set k (some (.dat d3))).set l (some (.dat d4))) [i, j, k, l] :=
  (pg_tup hc (pgs_cons (PG.ex (α := Dl × PyData) fun z => h1 z.1 z.2) (pgs_cons (PG.ex (α := Dl × PyData) fun z => h2 z.1 z.2) (pgs_cons (PG.ex (α := Dl × PyData) fun z => h3 z.1 z.2) (pgs_cons (PG.ex (α := Dl × PyData) fun z => h4 z.1 z.2) pgs_nil s4) s3) s2) s1) hn hst).imp fun v σ H Q ⟨M, ok, r, q⟩ => by
    cases r with
    | @tup a xs ds h r =>
      cases r with
      | @cons v1 _ _ _ r1 r =>
        cases r with
        | @cons v2 _ _ _ r2 r =>
          cases r with
          | @cons v3 _ _ _ r3 r =>
            cases r with
            | @cons v4 _ _ _ r4 r =>
              cases r
              refine ⟨a, [v1, v2, v3, v4], rfl, SqT.of (hid_le _ _ h), rfl, v1, [v2, v3, v4], rfl, ⟨δ, d1⟩, M, ok, r1, fun σ1 o1 ok1 => ⟨v2, [v3, v4], rfl, ⟨_, d2⟩, M, ok1, r2, fun σ2 o2 ok2 => ⟨v3, [v4], rfl, ⟨_, d3⟩, M, ok2, r3, fun σ3 o3 ok3 => ⟨v4, [], rfl, ⟨_, d4⟩, M, ok3, r4, fun σ4 o4 ok4 => ⟨rfl, ?_⟩⟩⟩⟩⟩
              have up : ∀ {s t : L2.St} {x : Nat}, Onl [x] s t → x ∈ [i, j, k, l] → Onl [i, j, k, l] s t := fun o hx => ⟨o.1, fun m hm => o.2 m (by simp only [List.mem_singleton]; intro e; exact hm (by rw [e]; exact hx))⟩
              exact q σ4 ((((up o1 (by simp)).trans (up o2 (by simp))).trans (up o3 (by simp))).trans (up o4 (by simp))) ok4
/-- x, y, z = data -/
theorem hs_par3 (i j l : Nat) {x y z : Str} {px py pz pt : Pos} {kt k2 pt2} (nd : X.N.Nodup) (ha : Ev X C δ a d1) (hb : Ev X C δ b d2) (hcc : Ev X C δ c d3) (hij : i ≠ j := by decide) (hil : i ≠ l := by decide) (hjl : j ≠ l := by decide) (hi : X.N[i]? = some x := by rfl) (hj : X.N[j]? = some y := by rfl) (hl : X.N[l]? = some z := by rfl) (hc : X.calm = true := by rfl)
    (hx : X.env.scope.names.lookup x = some .local := by rfl) (hy : X.env.scope.names.lookup y = some .local := by rfl) (hz : X.env.scope.names.lookup z = some .local := by rfl)
    (hw : swappedStores [.Tuple [.Name x px, .Name y py, .Name z pz] kt pt] (.Tuple [a, b, c] k2 pt2) X.env = pure (some [x, y, z]) := by rfl) (hs : swapsWithSole [.Tuple [.Name x px, .Name y py, .Name z pz] kt pt] (.Tuple [a, b, c] k2 pt2) pos.line X.env = pure false := by rfl)
    (s1 : starEach [a, b, c] X.env = (false, eval a X.env) :: starEach [b, c] X.env := by rfl) (s2 : starEach [b, c] X.env = (false, eval b X.env) :: starEach [c] X.env := by rfl) (s3 : starEach [c] X.env = (false, eval c X.env) :: starEach [] X.env := by rfl) :
    Hs X (Kn C δ) (.Assign [.Tuple [.Name x px, .Name y py, .Name z pz] kt pt] (.Tuple [a, b, c] k2 pt2) pos) (Kn C (((δ.set i (some (.dat d1))).set j (some (.dat d2))).set l (some (.dat d3)))) Φ :=
  (ps_par3 hc nd hi hj hl hij hil hjl hx hy hz (PA.small (pa_cons ha (pa_cons hb (pa_cons hcc pa_nil s3) s2) s1)) hw hs).imp fun D σ H ⟨⟨M, ok⟩, q, _⟩ => ⟨M, ok, fun u H1 sm1 t1 r1 => ⟨M, ok.mono t1, fun v H2 sm2 t2 r2 => ⟨M, ok.mono (t1.trans t2), fun w H3 sm3 t3 r3 sm => ⟨u, v, w, rfl, q _ _ ⟨M, (((ok.mono ((t1.trans t2).trans t3)).put (e := .dat d1) rfl (r1.mono (hid_same (t2.trans t3)))).put (e := .dat d2) rfl (r2.mono (hid_same t3))).put (e := .dat d3) rfl r3⟩⟩⟩⟩⟩
end
/-! ### what it computes -/
def sendO (opens : List (List Str)) (kit : List Str) : Bool := !decide ((opens.filter fun own => decide ((own.filter fun r => !decide (r ∈ kit)) = [])) = [])
def stopO (bars : List (List Str)) (its : List Str) : Bool := !decide ((bars.filter fun own => decide ((own.filter fun r => decide (r ∈ its)) = [])) = [])
def sO (n : Net) (c : Crew) (lot : List Int) (g : List Str) : Bool := sendO (openersL n lot) (heldBy c g)
def tO (n : Net) (c : Crew) (lot : List Int) (g : List Str) : Bool := stopO (barriersL n lot) (heldBy c (butOf (people c) g))
def handsD (n : Net) (c : Crew) (lot : List Int) (g : List Str) : PyData := optD (fun k : List Str => .int (k.length : Nat)) (wantedK n c lot g)
def mineB (n : Net) (c : Crew) (lot : List Int) (g : List Str) : List PyData := [.bool (sendsB n c lot g), .bool (stopsB n c lot g), handsD n c lot g]
def dueB (n : Net) (c : Crew) (lot : List Int) (g : List Str) : List PyData := [.bool (sO n c lot g), .bool (tO n c lot g), wantD (openersL n lot) (heldBy c g) (heldBy c (people c)) g]
def manyO (n : Net) (c : Crew) (lot : List Int) (gs : List (List Str)) : Int := ((gs.filter (sO n c lot)).length : Nat)
def fineO (n : Net) (c : Crew) (lot : List Int) (gs : List (List Str)) : Bool := gs.all fun g => tO n c lot g || !sO n c lot g
def withN (n : Net) (c : Crew) (lot : List Int) (t : Str) : Int := (((subs (people c)).filter fun g => decide (t ∈ g) && sendsB n c lot g).length : Nat)
def idleO (n : Net) (c : Crew) (lot : List Int) : List Str := (people c).filter fun t => decide (((sendersL n c lot ++ stoppersL n c lot).filter fun own => decide (t ∈ own)) = [])
def mineD (n : Net) (c : Crew) (lot : List Int) : List PyData :=
  ((subs (people c)).flatMap (mineB n c lot) ++ [eLs (sendersL n c lot), eLs (stoppersL n c lot), .bool (isN (apartD n c lot)), eK (idleL n c lot)]) ++ (people c).map fun t => .int (timesD n c lot t : Nat)
def dueD (n : Net) (c : Crew) (lot : List Int) : List PyData :=
  (((subs (people c)).flatMap (dueB n c lot) ++ [eLs (meetL (stoppersL n c lot) (people c)), eLs (meetL (sendersL n c lot) (people c)), .bool (fineO n c lot (subs (people c)))]) ++ [eK (idleO n c lot)]) ++ (people c).map fun t => .int (2 * withN n c lot t - manyO n c lot (subs (people c)))
end Kl
/-! M1: least sets, monotone nets. -/
namespace Kl
open PySem PySem.Spec PyProof.Rows L2 PySem.W
theorem sub_filter {L a : List Str} (nd : L.Nodup) (h : a.Sublist L) : a = L.filter fun x => decide (x ∈ a) := by
  induction h with
  | slnil => rfl
  | @cons a L y h ih =>
    obtain ⟨n1, n2⟩ := List.nodup_cons.mp nd
    rw [List.filter_cons, if_neg (by simpa using fun z => n1 (h.subset z))]
    exact ih n2
  | @cons_cons a L y h ih =>
    obtain ⟨n1, n2⟩ := List.nodup_cons.mp nd
    rw [List.filter_cons, if_pos (by simp)]
    congr 1
    conv => lhs; rw [ih n2]
    refine List.filter_congr fun x hx => ?_
    have : x ≠ y := fun e => n1 (by rw [← e]; exact hx)
    simp [this]
theorem sub_of {L a b : List Str} (nd : L.Nodup) (ha : a.Sublist L) (hb : b.Sublist L) (s : ∀ x ∈ a, x ∈ b) : a.Sublist b := by
  have e : a = b.filter fun x => decide (x ∈ a) := by
    conv => rhs; arg 2; rw [sub_filter nd hb]
    rw [List.filter_filter]
    conv => lhs; rw [sub_filter nd ha]
    refine List.filter_congr fun x hx => ?_
    by_cases z : x ∈ a
    · simp [z, s x z]
    · simp [z]
  rw [e]
  exact List.filter_sublist
theorem sub_ext {L a b : List Str} (nd : L.Nodup) (ha : a.Sublist L) (hb : b.Sublist L) (s : ∀ x, x ∈ a ↔ x ∈ b) : a = b := by
  rw [sub_filter nd ha, sub_filter nd hb]
  exact List.filter_congr fun x _ => by simp [s x]
def Lst (fam : List (List Str)) (x : List Str) : Prop := x ∈ fam ∧ ∀ far ∈ fam, (∀ t ∈ far, t ∈ x) → far = x
theorem ex_lst {L : List Str} (nd : L.Nodup) {fam : List (List Str)} (hf : ∀ k ∈ fam, k.Sublist L) : ∀ (n : Nat) (x : List Str), x.length ≤ n → x ∈ fam → ∃ k, Lst fam k ∧ ∀ t ∈ k, t ∈ x := by
  intro n
  induction n with
  | zero =>
    intro x hl hx
    have : x = [] := List.eq_nil_of_length_eq_zero (by omega)
    subst this
    exact ⟨[], ⟨hx, fun far _ h => List.eq_nil_iff_forall_not_mem.mpr fun t ht => absurd (h t ht) (by simp)⟩, fun t h => h⟩
  | succ n ih =>
    intro x hl hx
    by_cases c : ∃ far ∈ fam, (∀ t ∈ far, t ∈ x) ∧ far ≠ x
    · obtain ⟨far, h1, h2, h3⟩ := c
      have s := sub_of nd (hf far h1) (hf x hx) h2
      have : far.length < x.length := Nat.lt_of_le_of_ne s.length_le fun e => h3 (s.eq_of_length e)
      obtain ⟨k, hk, hs⟩ := ih far (by omega) h1
      exact ⟨k, hk, fun t ht => h2 t (hs t ht)⟩
    · exact ⟨x, ⟨hx, fun far h1 h2 => Classical.byContradiction fun h3 => c ⟨far, h1, h2, h3⟩⟩, fun t h => h⟩
theorem ex_least {L : List Str} (nd : L.Nodup) {fam : List (List Str)} (hf : ∀ k ∈ fam, k.Sublist L) {x : List Str} (hx : x ∈ fam) : ∃ k, Lst fam k ∧ ∀ t ∈ k, t ∈ x := ex_lst nd hf x.length x (Nat.le_refl _) hx
theorem allIn_iff {a b : List Str} : allIn a b = true ↔ ∀ t ∈ a, t ∈ b := by simp [allIn]
theorem mem_leastsK {fam : List (List Str)} {x : List Str} : x ∈ leastsK fam ↔ Lst fam x := by
  unfold leastsK Lst
  rw [List.mem_filter]
  have e : ∀ y, y ∈ setK fam ↔ y ∈ fam := fun y => mem_setS
  rw [e]
  refine and_congr_right fun _ => ?_
  rw [Bool.not_eq_true', List.any_eq_false]
  constructor
  · intro h far h1 h2
    refine Classical.byContradiction fun h3 => h far (List.mem_filter.mpr ⟨(e far).mpr h1, by simp [h3]⟩) (allIn_iff.mpr h2)
  · intro h far h1 h2
    obtain ⟨h3, h4⟩ := List.mem_filter.mp h1
    simp [h far ((e far).mp h3) (allIn_iff.mp h2)] at h4
theorem isL_iff {fam : List (List Str)} {x : List Str} (hx : x ∈ fam) : (!(fam.any fun far => !decide (far = x) && allIn far x)) = true ↔ Lst fam x := by
  unfold Lst
  rw [Bool.not_eq_true', List.any_eq_false]
  constructor
  · intro h
    refine ⟨hx, fun far h1 h2 => Classical.byContradiction fun h3 => h far h1 ?_⟩
    simp [h3, allIn_iff.mpr h2]
  · intro h far h1 h2
    simp only [Bool.and_eq_true, Bool.not_eq_true', decide_eq_false_iff_not] at h2
    exact h2.1 (h.2 far h1 (allIn_iff.mp h2.2))
theorem mem_leastsOf {fam : List (List Str)} {x : List Str} : x ∈ leastsOf fam ↔ Lst fam x := by
  unfold leastsOf
  rw [mem_srt, List.mem_filter]
  exact ⟨fun h => (isL_iff h.1).mp h.2, fun h => ⟨h.1, (isL_iff h.1).mpr h⟩⟩
/-! ### the nets -/
theorem sum_le {α : Type} {p q : α → Bool} {f : α → Int} : ∀ {l : List α}, (∀ x ∈ l, 0 ≤ f x) → (∀ x ∈ l, p x = true → q x = true) → ((l.filter p).map f).sum ≤ ((l.filter q).map f).sum
  | [], _, _ => Int.le_refl _
  | x :: r, h1, h2 => by
    have ih := sum_le (p := p) (q := q) (fun y hy => h1 y (List.mem_cons_of_mem _ hy)) fun y hy => h2 y (List.mem_cons_of_mem _ hy)
    have a := h1 x List.mem_cons_self
    have b := h2 x List.mem_cons_self
    rw [List.filter_cons, List.filter_cons]
    cases z : p x with
    | true =>
      rw [b z]
      simp only [if_true, List.map_cons, List.sum_cons]
      omega
    | false =>
      simp only [Bool.false_eq_true, if_false]
      split
      · rw [List.map_cons, List.sum_cons]; omega
      · exact ih
def Pos0 (n : Net) : Prop := ∀ l ∈ n.ls, 0 ≤ l.2.2.2.1
theorem key_mem {n : Net} {l : Ln} (h : l ∈ n.ls) : l.2.2.2.2 ∈ keysOf n := mem_setS.mpr (List.mem_map.mpr ⟨l, h, rfl⟩)
theorem goes_mono {n : Net} {lot : List Int} (W : Pos0 n) {k k' : List Str} (s : ∀ x ∈ keysOf n, x ∈ k → x ∈ k') (h : goesB n k lot = true) : goesB n k' lot = true := by
  unfold goesB at h ⊢
  refine List.all_eq_true.mpr fun far hf => ?_
  have h := of_decide_eq_true (List.all_eq_true.mp h far hf)
  refine decide_eq_true (Int.le_trans h ?_)
  unfold valOf
  refine Int.add_le_add_left (sum_le (fun l hl => W l hl) fun l hl q => ?_) _
  simp only [Bool.and_eq_true, decide_eq_true_eq] at q ⊢
  exact ⟨s _ (key_mem hl) q.1, q.2⟩
theorem goes_congr {n : Net} {lot : List Int} (W : Pos0 n) {k k' : List Str} (s : ∀ x ∈ keysOf n, x ∈ k ↔ x ∈ k') : goesB n k lot = goesB n k' lot := by
  rw [Bool.eq_iff_iff]
  exact ⟨goes_mono W fun x hx => (s x hx).mp, goes_mono W fun x hx => (s x hx).mpr⟩
theorem goes_open {n : Net} {lot : List Int} (W : Pos0 n) {k : List Str} : goesB n k lot = true ↔ ∃ own ∈ openersL n lot, ∀ r ∈ own, r ∈ k := by
  constructor
  · intro h
    have m : ((keysOf n).filter fun x => decide (x ∈ k)) ∈ (subs (keysOf n)).filter fun k => goesB n k lot :=
      List.mem_filter.mpr ⟨mem_subs.mpr List.filter_sublist, by rw [goes_congr W (k' := k) fun x hx => by simp [hx]]; exact h⟩
    obtain ⟨own, h1, h2⟩ := ex_least (keysOf_nd n) (fun k hk => mem_subs.mp (List.mem_filter.mp hk).1) m
    exact ⟨own, mem_leastsK.mpr h1, fun r hr => by simpa using (List.mem_filter.mp (h2 r hr)).2⟩
  · rintro ⟨own, h1, h2⟩
    exact goes_mono W (fun x _ hx => h2 x hx) (List.mem_filter.mp (mem_leastsK.mp h1).1).2
theorem goes_bar {n : Net} {lot : List Int} (W : Pos0 n) {k : List Str} : goesB n k lot = false ↔ ∃ own ∈ barriersL n lot, ∀ r ∈ own, r ∉ k := by
  constructor
  · intro h
    have m : othersOf n ((keysOf n).filter fun x => decide (x ∈ k)) ∈ ((subs (keysOf n)).filter fun k => !goesB n k lot).map (othersOf n) :=
      List.mem_map.mpr ⟨_, List.mem_filter.mpr ⟨mem_subs.mpr List.filter_sublist, by rw [goes_congr W (k' := k) fun x hx => by simp [hx]]; rw [h]; rfl⟩, rfl⟩
    obtain ⟨own, h1, h2⟩ := ex_least (keysOf_nd n) (fun k hk => by
      obtain ⟨q, _, rfl⟩ := List.mem_map.mp hk
      exact List.filter_sublist) m
    refine ⟨own, mem_leastsK.mpr h1, fun r hr z => ?_⟩
    obtain ⟨a, b⟩ := List.mem_filter.mp (h2 r hr)
    simp [a, z] at b
  · rintro ⟨own, h1, h2⟩
    obtain ⟨q, hq, rfl⟩ := List.mem_map.mp (mem_leastsK.mp h1).1
    have hq := (List.mem_filter.mp hq).2
    rw [Bool.not_eq_true'] at hq
    cases z : goesB n k lot with
    | false => rfl
    | true =>
      rw [goes_mono W (fun x hx hk => Classical.byContradiction fun nx => h2 x (List.mem_filter.mpr ⟨hx, by simp [nx]⟩) hk) z] at hq
      cases hq
theorem sendO_iff {opens : List (List Str)} {kit : List Str} : sendO opens kit = true ↔ ∃ own ∈ opens, ∀ r ∈ own, r ∈ kit := by
  unfold sendO
  simp [List.filter_eq_nil_iff]
theorem stopO_iff {bars : List (List Str)} {kit : List Str} : stopO bars kit = true ↔ ∃ own ∈ bars, ∀ r ∈ own, r ∉ kit := by
  unfold stopO
  simp [List.filter_eq_nil_iff]
theorem sO_eq {n : Net} {c : Crew} {lot : List Int} (W : Pos0 n) (g : List Str) : sO n c lot g = sendsB n c lot g := by
  rw [Bool.eq_iff_iff]
  unfold sO sendsB
  rw [sendO_iff, goes_open W]
theorem tO_eq {n : Net} {c : Crew} {lot : List Int} (W : Pos0 n) (g : List Str) : tO n c lot g = stopsB n c lot g := by
  rw [Bool.eq_iff_iff]
  unfold tO stopsB sendsB
  rw [stopO_iff, Bool.not_eq_true', goes_bar W]
theorem mem_held {c : Crew} {g : List Str} {k : Str} : k ∈ heldBy c g ↔ ∃ p ∈ c, p.1 ∈ g ∧ k ∈ p.2 := by
  unfold heldBy setT
  rw [mem_setS, List.mem_flatMap]
  constructor
  · rintro ⟨p, hp, hk⟩
    obtain ⟨a, b⟩ := List.mem_filter.mp hp
    exact ⟨p, a, by simpa using b, hk⟩
  · rintro ⟨p, hp, a, b⟩
    exact ⟨p, List.mem_filter.mpr ⟨hp, by simpa using a⟩, b⟩
theorem sends_mono {n : Net} {c : Crew} {lot : List Int} (W : Pos0 n) {g g' : List Str} (s : ∀ x ∈ g, x ∈ g') (h : sendsB n c lot g = true) : sendsB n c lot g' = true :=
  goes_mono W (fun x _ hx => by
    obtain ⟨p, hp, a, b⟩ := mem_held.mp hx
    exact mem_held.mpr ⟨p, hp, s _ a, b⟩) h
end Kl
/-! M2: the two sides of the law's case are alike. -/
namespace Kl
open PySem PySem.Spec PyProof.Rows L2 PySem.W
theorem le_eP {a b : Nat × List Str} (h : leD (eP a) (eP b) = true) : a.1 ≤ b.1 := by
  have e : PyProof.Rows.lexLt itemOrd (keyToks (eP b)) (keyToks (eP a)) = false := by simpa [leD, dataLe, sortLe] using h
  simp only [eP, keyToks, keyToksAll, List.cons_append, List.nil_append] at e
  have e1 := (lex_false.mp e).2.resolve_left (by show decide ((1 : Int) < 1) ≠ true; simp)
  have e2 : decide ((b.1 : Int) < (a.1 : Int)) = false := (lex_false.mp e1).1
  have := of_decide_eq_false e2
  omega
theorem byLen_up (l : List (List Str)) : (byLen l).Pairwise fun a b => a.1 ≤ b.1 := (srt_up (enc := eP) (l.map fun o : List Str => (o.length, o))).imp fun h => le_eP h
theorem byLen_mem {l : List (List Str)} {p : Nat × List Str} : p ∈ byLen l ↔ p.1 = p.2.length ∧ p.2 ∈ l := by
  unfold byLen
  rw [mem_srt, List.mem_map]
  constructor
  · rintro ⟨o, h, rfl⟩
    exact ⟨rfl, h⟩
  · rintro ⟨h1, h2⟩
    exact ⟨p.2, h2, by rw [← h1]⟩
theorem byLen_perm (l : List (List Str)) : ((byLen l).map fun p => p.2).Perm l := by
  have h := (srt_perm (enc := eP) (l.map fun o => (o.length, o))).map fun p => p.2
  rw [List.map_map] at h
  have e : (l.map ((fun p : Nat × List Str => p.2) ∘ fun o => (o.length, o))) = l := by
    conv => rhs; rw [← List.map_id l]
    exact List.map_congr_left fun x _ => rfl
  rw [e] at h
  exact h
/-- the law's lean rows are the least ones -/
theorem lean_fold {L : List Str} (nd : L.Nodup) {bands : List (List Str)} (hb : ∀ k ∈ bands, k.Sublist L) {q : List Str → Bool} (hq : ∀ x ∈ bands, q x = true ↔ Lst bands x) :
    ∀ (suf pre : List (Nat × List Str)), pre ++ suf = byLen bands → ((pre ++ suf).map fun p => p.2).Nodup → suf.foldl (fun f p => leanStep f p.2) ((pre.map fun p => p.2).filter q) = ((pre ++ suf).map fun p => p.2).filter q
  | [], pre, _, _ => by rw [List.append_nil]; rfl
  | o :: r, pre, e, dn => by
    have me : ∀ p, p ∈ pre ++ o :: r ↔ p.1 = p.2.length ∧ p.2 ∈ bands := fun p => by rw [e]; exact byLen_mem
    have up : (pre ++ o :: r).Pairwise fun a b => a.1 ≤ b.1 := by rw [e]; exact byLen_up bands
    have om := (me o).mp (by simp)
    have step : leanStep ((pre.map fun p => p.2).filter q) o.2 = ((pre ++ [o]).map fun p => p.2).filter q := by
      rw [List.map_append, List.filter_append]
      unfold leanStep
      cases z : q o.2 with
      | true =>
        have lo := (hq o.2 om.2).mp z
        rw [if_pos]
        · simp [z]
        · refine List.filter_eq_nil_iff.mpr fun f hf ht => ?_
          obtain ⟨h1, h2⟩ := List.mem_filter.mp hf
          obtain ⟨p, hp, rfl⟩ := List.mem_map.mp h1
          have pm := (me p).mp (List.mem_append_left _ hp)
          have sub : ∀ t ∈ p.2, t ∈ o.2 := by simpa [List.filter_eq_nil_iff] using ht
          have eq := lo.2 p.2 pm.2 sub
          rw [List.map_append, List.nodup_append] at dn
          exact dn.2.2 p.2 (List.mem_map.mpr ⟨p, hp, rfl⟩) o.2 (by simp) eq
      | false =>
        have no : ¬ Lst bands o.2 := fun h => by rw [(hq o.2 om.2).mpr h] at z; cases z
        obtain ⟨k, hk, hs⟩ := ex_least nd hb om.2
        have ne : k ≠ o.2 := fun h => no (h ▸ hk)
        have lt : k.length < o.2.length := Nat.lt_of_le_of_ne (sub_of nd (hb k hk.1) (hb _ om.2) hs).length_le fun h => ne ((sub_of nd (hb k hk.1) (hb _ om.2) hs).eq_of_length h)
        rw [if_neg]
        · simp [z]
        · intro h
          have := List.filter_eq_nil_iff.mp h k (List.mem_filter.mpr ⟨?_, (hq k hk.1).mpr hk⟩)
          · exact this (by simpa [List.filter_eq_nil_iff] using hs)
          · have km := (me (k.length, k)).mpr ⟨rfl, hk.1⟩
            rcases List.mem_append.mp km with h | h
            · exact List.mem_map.mpr ⟨_, h, rfl⟩
            · exfalso
              rcases List.mem_cons.mp h with h | h
              · exact ne (by rw [← h])
              · have := (List.pairwise_cons.mp (List.pairwise_append.mp up).2.1).1 _ h
                have o1 := om.1
                simp only at this
                omega
    rw [List.foldl_cons, step]
    have := lean_fold nd hb hq r (pre ++ [o]) (by rw [List.append_assoc]; exact e) (by rw [List.append_assoc]; exact dn)
    rw [this, List.append_assoc]
    rfl
theorem lean_leasts {L : List Str} (nd : L.Nodup) {bands : List (List Str)} (hb : ∀ k ∈ bands, k.Sublist L) (bn : bands.Nodup) : leanL bands = leastsOf bands := by
  have dn : ((byLen bands).map fun p => p.2).Nodup := (byLen_perm bands).nodup_iff.mpr bn
  unfold leanL leastsOf
  have := lean_fold nd hb (q := fun own => !(bands.any fun far => !decide (far = own) && allIn far own)) (fun x hx => isL_iff hx) (byLen bands) [] rfl dn
  rw [List.map_nil, List.filter_nil, List.nil_append] at this
  rw [this]
  exact srt_eq inj_eK ((byLen_perm bands).filter _)
section
/-! ### the groups, by a rule that only grows -/
variable {p : List Str} {S : List Str → Bool}
theorem but_but {g : List Str} (nd : p.Nodup) (hg : g.Sublist p) : butOf p (butOf p g) = g := by
  refine sub_ext nd List.filter_sublist hg fun x => ?_
  unfold butOf
  simp only [List.mem_filter, Bool.not_eq_true', decide_eq_false_iff_not]
  refine ⟨fun h => Classical.byContradiction fun z => h.2 ⟨h.1, z⟩, fun h => ⟨hg.subset h, fun z => z.2 h⟩⟩
theorem mem_but {g : List Str} {x : Str} : x ∈ butOf p g ↔ x ∈ p ∧ x ∉ g := by
  unfold butOf
  simp [List.mem_filter]
theorem meetP_iff {lots : List (List Str)} {band : List Str} : meetP lots band = true ↔ ∀ own ∈ lots, ∃ t ∈ own, t ∈ band := by
  unfold meetP
  rw [decide_eq_true_eq, List.filter_eq_nil_iff]
  refine forall_congr' fun own => forall_congr' fun _ => ?_
  rw [decide_eq_true_eq, List.filter_eq_nil_iff]
  simp
abbrev sendF (p : List Str) (S : List Str → Bool) : List (List Str) := (subs p).filter S
abbrev stopF (p : List Str) (S : List Str → Bool) : List (List Str) := (subs p).filter fun g => !S (butOf p g)
theorem subF {q : List Str → Bool} : ∀ k ∈ (subs p).filter q, k.Sublist p := fun k hk => mem_subs.mp (List.mem_filter.mp hk).1
theorem meet_stop (nd : p.Nodup) (mono : ∀ a b : List Str, (∀ x ∈ a, x ∈ b) → S a = true → S b = true) : meetL (leastsOf (stopF p S)) p = leastsOf (sendF p S) := by
  have e : ((subs p).filter (meetP (leastsOf (stopF p S)))) = sendF p S := by
    refine List.filter_congr fun g hg => ?_
    rw [Bool.eq_iff_iff, meetP_iff]
    constructor
    · intro h
      cases z : S g with
      | true => rfl
      | false =>
        have hm : butOf p g ∈ stopF p S := List.mem_filter.mpr ⟨but_mem, by rw [but_but nd (mem_subs.mp hg), z]; rfl⟩
        obtain ⟨k, h1, h2⟩ := ex_least nd subF hm
        obtain ⟨t, ht, tg⟩ := h k (mem_leastsOf.mpr h1)
        exact absurd tg (mem_but.mp (h2 t ht)).2
    · intro h own ho
      have w := (mem_leastsOf.mp ho).1
      refine Classical.byContradiction fun z => ?_
      have hS : S (butOf p own) = true := mono g _ (fun x hx => mem_but.mpr ⟨(mem_subs.mp hg).subset hx, fun y => z ⟨x, y, hx⟩⟩) h
      have := (List.mem_filter.mp w).2
      rw [hS] at this
      cases this
  have l := lean_leasts nd (bands := sendF p S) subF ((nd_subs nd).filter _)
  rw [← e] at l
  rw [← e]
  exact l
theorem meet_send (nd : p.Nodup) (mono : ∀ a b : List Str, (∀ x ∈ a, x ∈ b) → S a = true → S b = true) : meetL (leastsOf (sendF p S)) p = leastsOf (stopF p S) := by
  have e : ((subs p).filter (meetP (leastsOf (sendF p S)))) = stopF p S := by
    refine List.filter_congr fun g hg => ?_
    rw [Bool.eq_iff_iff, meetP_iff]
    constructor
    · intro h
      cases z : S (butOf p g) with
      | false => rfl
      | true =>
        have hm : butOf p g ∈ sendF p S := List.mem_filter.mpr ⟨but_mem, z⟩
        obtain ⟨k, h1, h2⟩ := ex_least nd subF hm
        obtain ⟨t, ht, tg⟩ := h k (mem_leastsOf.mpr h1)
        exact absurd tg (mem_but.mp (h2 t ht)).2
    · intro h own ho
      have w := (mem_leastsOf.mp ho).1
      refine Classical.byContradiction fun z => ?_
      have hS : S (butOf p g) = true := mono own _ (fun x hx => mem_but.mpr ⟨(mem_subs.mp (List.mem_filter.mp w).1).subset hx, fun y => z ⟨x, hx, y⟩⟩) (List.mem_filter.mp w).2
      rw [hS] at h
      cases h
  have l := lean_leasts nd (bands := stopF p S) subF ((nd_subs nd).filter _)
  rw [← e] at l
  rw [← e]
  exact l
variable {t : Str} {wo : List Str → List Str}
theorem times_zero (nd : p.Nodup) (ht : t ∈ p) (mono : ∀ a b : List Str, (∀ x ∈ a, x ∈ b) → S a = true → S b = true) (hw : ∀ g ∈ subs p, wo g ∈ subs p ∧ ∀ x, x ∈ wo g ↔ x ∈ g ∨ x = t) :
    (((subs p).filter fun g => !decide (t ∈ g)).filter fun g => S (wo g) && !S g).length = 0 ↔ (leastsOf (sendF p S) ++ leastsOf (stopF p S)).filter (fun own => decide (t ∈ own)) = [] := by
  rw [List.length_eq_zero_iff, List.filter_eq_nil_iff, List.filter_eq_nil_iff]
  constructor
  · intro h own ho tm
    have tm := of_decide_eq_true tm
    rcases List.mem_append.mp ho with ho | ho
    · obtain ⟨w, least⟩ := mem_leastsOf.mp ho
      obtain ⟨w1, w2⟩ := List.mem_filter.mp w
      have gm : own.filter (fun x => decide (x ≠ t)) ∈ subs p := mem_subs.mpr (List.filter_sublist.trans (mem_subs.mp w1))
      have nt : t ∉ own.filter (fun x => decide (x ≠ t)) := by simp
      have := h _ (List.mem_filter.mpr ⟨gm, by simp⟩)
      refine this ?_
      rw [Bool.and_eq_true]
      constructor
      · refine mono own _ (fun x hx => ((hw _ gm).2 x).mpr ?_) w2
        by_cases e : x = t
        · exact .inr e
        · exact .inl (List.mem_filter.mpr ⟨hx, by simpa using e⟩)
      · cases z : S (own.filter fun x => decide (x ≠ t)) with
        | false => rfl
        | true =>
          have := least _ (List.mem_filter.mpr ⟨gm, z⟩) fun x hx => (List.mem_filter.mp hx).1
          rw [← this] at tm
          exact absurd tm nt
    · obtain ⟨w, least⟩ := mem_leastsOf.mp ho
      obtain ⟨w1, w2⟩ := List.mem_filter.mp w
      have nt : t ∉ butOf p own := fun z => (mem_but.mp z).2 tm
      have := h (butOf p own) (List.mem_filter.mpr ⟨but_mem, by simpa using nt⟩)
      refine this ?_
      rw [Bool.and_eq_true]
      refine ⟨?_, w2⟩
      have gm : own.filter (fun x => decide (x ≠ t)) ∈ subs p := mem_subs.mpr (List.filter_sublist.trans (mem_subs.mp w1))
      have hS : S (butOf p (own.filter fun x => decide (x ≠ t))) = true := by
        cases z : S (butOf p (own.filter fun x => decide (x ≠ t))) with
        | true => rfl
        | false =>
          have := least _ (List.mem_filter.mpr ⟨gm, by rw [z]; rfl⟩) fun x hx => (List.mem_filter.mp hx).1
          rw [← this] at tm
          simp at tm
      refine mono _ _ (fun x hx => ((hw _ but_mem).2 x).mpr ?_) hS
      obtain ⟨a, b⟩ := mem_but.mp hx
      by_cases e : x = t
      · exact .inr e
      · exact .inl (mem_but.mpr ⟨a, fun y => b (List.mem_filter.mpr ⟨y, by simpa using e⟩)⟩)
  · intro h g hg hS
    obtain ⟨g1, g2⟩ := List.mem_filter.mp hg
    rw [Bool.and_eq_true] at hS
    have g2 : t ∉ g := by simpa using g2
    obtain ⟨k, h1, h2⟩ := ex_least nd subF (List.mem_filter.mpr ⟨(hw g g1).1, hS.1⟩ : wo g ∈ sendF p S)
    have := h k (List.mem_append_left _ (mem_leastsOf.mpr h1))
    have nk : t ∉ k := by simpa using this
    have : S g = true := mono k g (fun x hx => (((hw g g1).2 x).mp (h2 x hx)).resolve_right fun e => nk (e ▸ hx)) (List.mem_filter.mp h1.1).2
    rw [this] at hS
    simp at hS
theorem count_split {α : Type} (a b : α → Bool) : ∀ l : List α, (l.filter a).length = (l.filter fun x => b x && a x).length + (l.filter fun x => !b x && a x).length
  | [] => rfl
  | x :: r => by
    have ih := count_split a b r
    rw [List.filter_cons, List.filter_cons, List.filter_cons]
    cases a x <;> cases b x <;> simp <;> omega
theorem times_count (nd : p.Nodup) (ht : t ∈ p) (mono : ∀ a b : List Str, (∀ x ∈ a, x ∈ b) → S a = true → S b = true) (hw : ∀ g ∈ subs p, wo g ∈ subs p ∧ ∀ x, x ∈ wo g ↔ x ∈ g ∨ x = t) :
    (((((subs p).filter fun g => !decide (t ∈ g)).filter fun g => S (wo g) && !S g).length : Nat) : Int) = 2 * (((subs p).filter fun g => decide (t ∈ g) && S g).length : Nat) - (((subs p).filter S).length : Nat) := by
  have h1 := count_split S (fun g => decide (t ∈ g)) (subs p)
  have h2 : ((subs p).filter fun g => decide (t ∈ g) && S g).length = ((subs p).filter fun g => !decide (t ∈ g) && S (wo g)).length := by
    have pm : ((subs p).filter fun g => decide (t ∈ g) && S g).Perm (((subs p).filter fun g => !decide (t ∈ g) && S (wo g)).map wo) := by
      refine nd_perm ((nd_subs nd).filter _) ?_ fun x => ?_
      · have nf : ((subs p).filter fun g => !decide (t ∈ g) && S (wo g)).Nodup := (nd_subs nd).filter _
        unfold List.Nodup at nf ⊢
        rw [List.pairwise_map]
        refine List.Pairwise.imp_of_mem (fun {a b} ha hb ne e => ne ?_) nf
        obtain ⟨a1, a2⟩ := List.mem_filter.mp ha
        obtain ⟨b1, b2⟩ := List.mem_filter.mp hb
        simp only [Bool.and_eq_true, Bool.not_eq_true', decide_eq_false_iff_not] at a2 b2
        refine sub_ext nd (mem_subs.mp a1) (mem_subs.mp b1) fun x => ?_
        have i1 := (hw a a1).2 x
        have i2 := (hw b b1).2 x
        rw [e] at i1
        constructor
        · intro hx
          exact (i2.mp (i1.mpr (.inl hx))).resolve_right fun z => a2.1 (z ▸ hx)
        · intro hx
          exact (i1.mp (i2.mpr (.inl hx))).resolve_right fun z => b2.1 (z ▸ hx)
      · rw [List.mem_filter, List.mem_map]
        constructor
        · rintro ⟨x1, x2⟩
          simp only [Bool.and_eq_true, decide_eq_true_eq] at x2
          have gm : x.filter (fun y => decide (y ≠ t)) ∈ subs p := mem_subs.mpr (List.filter_sublist.trans (mem_subs.mp x1))
          have e : wo (x.filter fun y => decide (y ≠ t)) = x := sub_ext nd (mem_subs.mp (hw _ gm).1) (mem_subs.mp x1) fun y => by
            rw [(hw _ gm).2 y, List.mem_filter]
            constructor
            · rintro (h | h)
              · exact h.1
              · rw [h]; exact x2.1
            · intro h
              by_cases e : y = t
              · exact .inr e
              · exact .inl ⟨h, by simpa using e⟩
          exact ⟨_, List.mem_filter.mpr ⟨gm, by rw [e, x2.2]; simp⟩, e⟩
        · rintro ⟨g, hg, rfl⟩
          obtain ⟨g1, g2⟩ := List.mem_filter.mp hg
          simp only [Bool.and_eq_true] at g2
          exact ⟨(hw g g1).1, by rw [g2.2, Bool.and_true]; exact decide_eq_true (((hw g g1).2 t).mpr (.inr rfl))⟩
    rw [pm.length_eq, List.length_map]
  have h3 := count_split (fun g => !decide (t ∈ g) && S (wo g)) S (subs p)
  have h4 : ((subs p).filter fun g => S g && (!decide (t ∈ g) && S (wo g))) = (subs p).filter fun g => !decide (t ∈ g) && S g := by
    refine List.filter_congr fun g hg => ?_
    cases z : S g with
    | false => simp
    | true => rw [mono g (wo g) (fun x hx => ((hw g hg).2 x).mpr (.inl hx)) z]; simp
  have h5 : (((subs p).filter fun g => !decide (t ∈ g)).filter fun g => S (wo g) && !S g) = (subs p).filter fun g => !S g && (!decide (t ∈ g) && S (wo g)) := by
    rw [List.filter_filter]
    refine List.filter_congr fun g hg => ?_
    cases S g <;> cases S (wo g) <;> cases decide (t ∈ g) <;> rfl
  rw [h4] at h3
  rw [h5]
  omega
end
end Kl
/-! W11: the law's case, walked. -/
namespace Kl
open PySem PySem.Spec PyProof.Rows L2 PySem.W
open C8 (Cal pe_c)
theorem ok_leastsK {fam : List (List Str)} {g : List Str} (h : g ∈ leastsK fam) : g ∈ fam := mem_setS.mp (List.mem_filter.mp h).1
theorem len_nub {α : Type} [DecidableEq α] : ∀ l : List α, (nub l).length ≤ l.length
  | [] => Nat.le_refl _
  | x :: r => by
    unfold nub
    split
    · exact Nat.le_succ_of_le (len_nub r)
    · exact Nat.succ_le_succ (len_nub r)
theorem len_leastsK (fam : List (List Str)) : (leastsK fam).length ≤ fam.length := by
  refine Nat.le_trans (List.length_filter_le _ _) ?_
  unfold setK setS
  rw [len_srt]
  exact len_nub fam
theorem ok_open {n : Net} (W : WfN n) {lot : List Int} {g : List Str} (h : g ∈ openersL n lot) : okK g = true :=
  okK_keys W fun x hx => (mem_subs.mp (List.mem_filter.mp (ok_leastsK h)).1).subset hx
theorem ok_bar {n : Net} (W : WfN n) {lot : List Int} {g : List Str} (h : g ∈ barriersL n lot) : okK g = true := by
  obtain ⟨k, hk, e⟩ := List.mem_map.mp (ok_leastsK h)
  exact okK_keys W fun x hx => by rw [← e] at hx; exact (List.mem_filter.mp hx).1
theorem few_open {n : Net} (W : WfN n) {lot : List Int} : (openersL n lot).length ≤ 64 :=
  Nat.le_trans (len_leastsK _) (Nat.le_trans (List.length_filter_le _ _) (Nat.le_trans (subs32 W) (by decide)))
theorem sub_leastsOf {gs : List (List Str)} {g : List Str} (h : g ∈ leastsOf gs) : g ∈ gs := (List.mem_filter.mp (mem_srt.mp h)).1
theorem ok_send {n : Net} {c : Crew} (W : WfC c) {lot : List Int} {g : List Str} (h : g ∈ sendersL n c lot) : okK g = true := ok_sub W (List.mem_filter.mp (sub_leastsOf h)).1
theorem ok_stop {n : Net} {c : Crew} (W : WfC c) {lot : List Int} {g : List Str} (h : g ∈ stoppersL n c lot) : okK g = true := ok_sub W (List.mem_filter.mp (sub_leastsOf h)).1
theorem ok_people {c : Crew} (W : WfC c) : okK (people c) = true := List.all_eq_true.mpr fun x hx => by
  obtain ⟨p, hp, rfl⟩ := List.mem_map.mp hx
  exact W.ok p hp
theorem psubs32 {c : Crew} (W : WfC c) : (subs (people c)).length ≤ 32 := by
  have h : (people c).length ≤ 5 := by
    unfold people
    rw [List.length_map]
    exact W.cl
  rw [len_subs]
  exact Nat.pow_le_pow_right (by decide) h
theorem take_end {α : Type} {l : List α} {k : Nat} {x : α} (h : l[k]? = some x) : l.take (k + 1) = l.take k ++ [x] := by rw [List.take_add_one, h]; rfl
theorem flat_next {α β : Type} {f : α → List β} {l : List α} {k : Nat} {x : α} (h : l[k]? = some x) : (l.take (k + 1)).flatMap f = (l.take k).flatMap f ++ f x := by
  rw [take_end h, List.flatMap_append]
  simp
theorem flat3 {α β : Type} {f : α → List β} (h : ∀ x, (f x).length = 3) : ∀ l : List α, (l.flatMap f).length = 3 * l.length
  | [] => rfl
  | x :: r => by
    rw [List.flatMap_cons, List.length_append, h, flat3 h r, List.length_cons]
    omega
theorem lev_strs {l : List Str} (h : okK l = true) : ∀ k, lev (k + 1) (eK l) = true := fun k => by
  show (l.map PyData.str).all (lev k) = true
  rw [List.all_map]
  exact List.all_eq_true.mpr fun x hx => lev_flat (d := .str x) (List.all_eq_true.mp h x hx) k
theorem lev_rows {l : List (List Str)} (h : ∀ k ∈ l, okK k = true) : ∀ k, lev (k + 2) (eLs l) = true := fun k => by
  show (l.map eK).all (lev (k + 1)) = true
  rw [List.all_map]
  exact List.all_eq_true.mpr fun x hx => lev_strs (h x hx) k
theorem lev_mine {n : Net} {c : Crew} {lot : List Int} (Wn : WfN n) (Wc : WfC c) : lev 3 (.list (mineD n c lot)) = true := by
  show (mineD n c lot).all (lev 2) = true
  refine List.all_eq_true.mpr fun d hd => ?_
  unfold mineD at hd
  rcases List.mem_append.mp hd with hd | hd
  · rcases List.mem_append.mp hd with hd | hd
    · obtain ⟨g, hg, hd⟩ := List.mem_flatMap.mp hd
      unfold mineB handsD at hd
      simp only [List.mem_cons, List.not_mem_nil, or_false] at hd
      rcases hd with rfl | rfl | rfl
      · rfl
      · rfl
      · cases wantedK n c lot g <;> rfl
    · simp only [List.mem_cons, List.not_mem_nil, or_false] at hd
      rcases hd with rfl | rfl | rfl | rfl
      · exact lev_rows (fun k hk => ok_send Wc hk) 0
      · exact lev_rows (fun k hk => ok_stop Wc hk) 0
      · rfl
      · exact lev_strs (okK_sub (ok_people Wc) fun x hx => (List.mem_filter.mp hx).1) 1
  · obtain ⟨t, ht, rfl⟩ := List.mem_map.mp hd
    rfl
/-- what the loop over the bands knows -/
abbrev caseδ (n : Net) (c : Crew) (lot : List Int) (gs : List (List Str)) : Dl :=
  [some (.dat (eN n)), some (.dat (eCr c)), some (.dat (eLot lot)), some (.dat (eTs (openersL n lot))), some (.dat (eTs (barriersL n lot))), some (.dat (.list ((people c).map .str))), some (.dat (.list (gs.flatMap (mineB n c lot)))), some (.dat (.list (gs.flatMap (dueB n c lot)))), some (.dat (.int (manyO n c lot gs))), some (.dat (.bool (fineO n c lot gs)))]
def Scase : List PyData → PyData → Prop := fun ds r => ∃ n c lot, ds = [eN n, eCr c, eLot lot] ∧ WfN n ∧ WfC c ∧ mineD n c lot = dueD n c lot ∧ r = .bool true
section
variable {P : Program} {w : World} {K : PySem.W.Frag} {mg : Str → Option Value} {base : Heap}
theorem sc72 : FnScope ["_law_web_here", "_law_crew_here", "_law_bits_so", "_law_opens_so", "_law_bars_so", "_law_tags", "_law_mine", "_law_due", "_law_many", "_law_fine", "_law_band", "_law_kit", "_law_its", "_law_send_so", "_law_stop_so", "_law_near", "_law_far", "_law_tag", "_law_with_so", "_law_own", "_law_ring"] ["_law_web_here", "_law_crew_here", "_law_bits_so"] (defScope (topS 72)) := ⟨rfl, rfl, rfl, by decide +kernel, rfl, by decide +kernel, by decide +kernel⟩
theorem c_case (G : Mg mg) (F : Df K mg "_law_case_right" ["_law_web_here", "_law_crew_here", "_law_bits_so"] (topS 72))
    (C1 : Cal P w K mg base 6 "openers" (spR 2 Sopeners) []) (C2 : Cal P w K mg base 5 "barriers" (spR 2 Sbarriers) []) (C3 : Cal P w K mg base 1 "_law_sets" (spR 1 Ssubs) []) (C4 : Cal P w K mg base 1 "_law_purse" (spR 2 Spurse) []) (C5 : Cal P w K mg base 1 "_law_rest" (spR 2 Sbut) [])
    (C6 : Cal P w K mg base 4 "sends" (spR 4 Ssends) []) (C7 : Cal P w K mg base 5 "stops" (spR 4 Sstops) []) (C8 : Cal P w K mg base 5 "fewest_hands" (spR 4 Sfewest) []) (C9 : Cal P w K mg base 2 "_law_wanted" (spR 3 SlWanted) []) (C10 : Cal P w K mg base 5 "senders" (spR 3 Ssenders) []) (C11 : Cal P w K mg base 5 "stoppers" (spR 3 Sstoppers) [])
    (C12 : Cal P w K mg base 5 "apart" (spR 3 Sapart) []) (C13 : Cal P w K mg base 5 "idle_people" (spR 3 Sidle) []) (C14 : Cal P w K mg base 2 "_law_meet" (spR 2 Smeet) []) (C15 : Cal P w K mg base 5 "decided" (spR 4 Sdecided) []) (C16 : Cal P w K mg base 4 "_law_same" (spR 2 (Ssame 3)) []) : Cal P w K mg base 7 "_law_case_right" (spR 3 Scase) [] := by
  refine cal_of F sc72 rfl fun f cdv A outer s H E M hr ds r hS => ?_
  obtain ⟨n, c, lot, rfl, Wn, Wc, eq, rfl⟩ := hS
  have pl : (people c).length ≤ 5 := by unfold people; rw [List.length_map]; exact Wc.cl
  have s32 := psubs32 Wc
  have memP : ∀ {g : List Str}, g ∈ subs (people c) → ∀ x ∈ g, x ∈ people c := fun h x hx => (mem_subs.mp h).subset hx
  have lenM : ∀ k, ((subs (people c)).take k).length ≤ 32 := fun k => by rw [List.length_take]; omega
  -- openers, barriers, tags
  refine ho_no (ho_cons (hs_par3 3 4 5 (d1 := eTs (openersL n lot)) (d2 := eTs (barriersL n lot)) (d3 := .list ((people c).map .str)) sc72.nd ?_ ?_ ?_) ?_)
  · exact ev_call C1 hr (ea_cons (nv 0) (ea_cons (nv 2) ea_nil)) ⟨n, lot, rfl, Wn, rfl⟩
  · exact ev_call C2 hr (ea_cons (nv 0) (ea_cons (nv 2) ea_nil)) ⟨n, lot, rfl, Wn, rfl⟩
  · refine Ev.cast (ef_1 (xs := c) (en := eH) (f := fun p => .str p.1) 19 sc72.nd (ei_T (nv 1)) (fun _ _ _ _ _ x _ => ?_)).ev ?_
    · exact ev_ixT (nv 19) ev_int
    · unfold people
      rw [List.map_map]
      rfl
  refine ho_cons (hs_asg (d := .tuple [.list [], .list [], .int 0, .bool true]) (ev_tup (ea_cons ef_nil.ev (ea_cons ef_nil.ev (ea_cons ev_int (ea_cons ev_bl ea_nil))))) (gn4 (i := 6) (j := 7) (k := 8) (l := 9) rfl (fun δ d => gn 6 sc72.nd) (fun δ d => gn 7 sc72.nd) (fun δ d => gn 8 sc72.nd) (fun δ d => gn 9 sc72.nd))) ?_
  refine ho_cons (hs_for (xs := subs (people c)) (en := eK) (is := [10]) (δx := fun k (_ : Unit) g => caseδ n c lot ((subs (people c)).take k) ++ [some (.dat (eK g)), none, none, none, none, none, none, none, none, none, none])
    (fun k (_ : Unit) => caseδ n c lot ((subs (people c)).take k) ++ [none, none, none, none, none, none, none, none, none, none, none]) (fun _ _ => True) () rfl PassesOwn.never trivial (Les.refl _)
    (ei_L (ds := (subs (people c)).map eK) (ev_call C3 hr (ea_cons (nv 5) ea_nil) ⟨false, people c, rfl, Nat.le_trans pl (by decide), rfl⟩)) (fun ps k g x hx _ => gn 10 sc72.nd) (fun ps k _ g hx _ => ?_)) ?_
  · have hg := List.mem_of_getElem? hx
    have okg := ok_sub Wc hg
    have lk := lenM k
    refine ho_cons (hs_par' 11 12 (e1 := .dat (eK (heldBy c g))) (e2 := .dat (eK (heldBy c (butOf (people c) g)))) sc72.nd (ee_d ?_) (ee_d ?_)) ?_
    · exact ev_call C4 hr (ea_cons (nv 1) (ea_cons (nv 10) ea_nil)) ⟨c, true, g, rfl, Wc, rfl⟩
    · exact ev_call C4 hr (ea_cons (nv 1) (ea_cons (ev_call C5 hr (ea_cons (nv 1) (ea_cons (nv 10) ea_nil)) ⟨c, g, rfl, rfl⟩) ea_nil)) ⟨c, true, butOf (people c) g, rfl, Wc, rfl⟩
    refine ho_cons (hs_set (d := .bool (sO n c lot g)) 13 sc72.nd (ev_neNilK (l := (openersL n lot).filter fun own => decide ((own.filter fun r => !decide (r ∈ heldBy c g)) = [])) hr ?_ fun o ho => ok_open Wn (List.mem_filter.mp ho).1)) ?_
    · refine (ef_1t (xs := openersL n lot) (en := eK) (pr := fun own => decide ((own.filter fun r => !decide (r ∈ heldBy c g)) = [])) (f := eK) 19 sc72.nd (ei_T (nv 3)) (fun s H Cc cl fp o ho => ?_) (fun _ _ _ _ _ o ho _ => nv 19)).ev
      refine et_eqNil hr ?_ (okK_filter _ (ok_open Wn ho))
      exact (ef_1t (xs := o) (en := .str) (pr := fun r => !decide (r ∈ heldBy c g)) (f := .str) 20 sc72.nd (ei_T (nv 19)) (fun s H Cc cl fp t ht => et_nin (nv 20) (nv 11).seqT) (fun _ _ _ _ _ o ho _ => nv 20)).ev
    refine ho_cons (hs_set (d := .bool (tO n c lot g)) 14 sc72.nd (ev_neNilK (l := (barriersL n lot).filter fun own => decide ((own.filter fun r => decide (r ∈ heldBy c (butOf (people c) g))) = [])) hr ?_ fun o ho => ok_bar Wn (List.mem_filter.mp ho).1)) ?_
    · refine (ef_1t (xs := barriersL n lot) (en := eK) (pr := fun own => decide ((own.filter fun r => decide (r ∈ heldBy c (butOf (people c) g))) = [])) (f := eK) 19 sc72.nd (ei_T (nv 4)) (fun s H Cc cl fp o ho => ?_) (fun _ _ _ _ _ o ho _ => nv 19)).ev
      refine et_eqNil hr ?_ (okK_filter _ (ok_bar Wn ho))
      exact (ef_1t (xs := o) (en := .str) (pr := fun r => decide (r ∈ heldBy c (butOf (people c) g))) (f := .str) 20 sc72.nd (ei_T (nv 19)) (fun s H Cc cl fp t ht => et_in (nv 20) (nv 12).seqT) (fun _ _ _ _ _ o ho _ => nv 20)).ev
    refine ho_cons (hs_set (d := .list (((subs (people c)).take k).flatMap (mineB n c lot) ++ [.bool (sendsB n c lot g), .bool (stopsB n c lot g)])) 6 sc72.nd (ef_cat (nv 6).lst (Ev.lst (ev_lst (ea_cons ?_ (ea_cons ?_ ea_nil)))) ?_).ev) ?_
    · exact ev_call C6 hr (ea_cons (nv 0) (ea_cons (nv 1) (ea_cons (nv 2) (ea_cons (nv 10) ea_nil)))) ⟨n, c, lot, g, rfl, Wn, Wc, memP hg, rfl⟩
    · exact ev_call C7 hr (ea_cons (nv 0) (ea_cons (nv 1) (ea_cons (nv 2) (ea_cons (nv 10) ea_nil)))) ⟨n, c, lot, g, rfl, Wn, Wc, memP hg, rfl⟩
    · rw [flat3 (fun _ => rfl)]
      exact big (by simp only [List.length_cons, List.length_nil]; omega)
    refine ho_cons (hs_set (d := .list ((((subs (people c)).take k).flatMap (mineB n c lot) ++ [.bool (sendsB n c lot g), .bool (stopsB n c lot g)]) ++ [handsD n c lot g])) 6 sc72.nd (ef_cat (nv 6).lst (Ev.lst (ev_lst (ea_cons ?_ ea_nil))) ?_).ev) ?_
    · exact ev_call C8 hr (ea_cons (nv 0) (ea_cons (nv 1) (ea_cons (nv 2) (ea_cons (nv 10) ea_nil)))) ⟨n, c, lot, g, rfl, Wn, Wc, memP hg, rfl⟩
    · rw [List.length_append, flat3 (fun _ => rfl)]
      exact big (by simp only [List.length_cons, List.length_nil]; omega)
    refine ho_cons (hs_set (d := .list (((subs (people c)).take k).flatMap (dueB n c lot) ++ dueB n c lot g)) 7 sc72.nd (ef_cat (nv 7).lst (Ev.lst (ev_lst (ea_cons (nv 13) (ea_cons (nv 14) (ea_cons ?_ ea_nil))))) ?_).ev) ?_
    · exact ev_call C9 hr (ea_cons (nv 3) (ea_cons (nv 1) (ea_cons (nv 10) ea_nil))) ⟨openersL n lot, c, g, rfl, Wc, fun k hk => ok_open Wn hk, okg, few_open Wn, rfl⟩
    · rw [flat3 (fun _ => rfl)]
      exact big (by simp only [List.length_cons, List.length_nil]; omega)
    refine ho_one (hs_post (hs_par 8 9 (e1 := .dat (.int (manyO n c lot ((subs (people c)).take k) + if sO n c lot g then 1 else 0))) (e2 := .dat (.bool (fineO n c lot ((subs (people c)).take k) && (tO n c lot g || !sO n c lot g)))) sc72.nd (ee_d ?_) (ee_d ?_)) fun σ' H' h => ⟨(), trivial, ?_⟩)
    · exact ev_add (nv 8) (ev_intB (G.no "int" (by decide)) (nv 13))
    · exact ev_and (nv 9) fun _ => ev_one (ev_or (nv 14) fun _ => ev_one (ev_not (nv 13)))
    · have e1 : manyO n c lot ((subs (people c)).take (k + 1)) = manyO n c lot ((subs (people c)).take k) + if sO n c lot g then 1 else 0 := by
        unfold manyO
        rw [filter_next hx]
        cases sO n c lot g <;> simp
      have e2 : fineO n c lot ((subs (people c)).take (k + 1)) = (fineO n c lot ((subs (people c)).take k) && (tO n c lot g || !sO n c lot g)) := by
        unfold fineO
        rw [take_end hx, List.all_append]
        simp
      unfold caseδ
      rw [e1, e2, flat_next hx, flat_next hx]
      rw [List.append_assoc] at h
      exact Kn.les (.keep (.keep (.keep (.keep (.keep (.keep (.keep (.keep (.keep (.keep (.skip (.skip (.skip (.skip (.skip (.skip (.skip (.skip (.skip (.skip (.skip .nil))))))))))))))))))))) _ _ h
  refine ho_ex fun _ => ho_and fun _ => ?_
  rw [List.take_length]
  refine ho_cons (hs_par' 15 16 (e1 := .dat (eLs (sendersL n c lot))) (e2 := .dat (eLs (stoppersL n c lot))) sc72.nd (ee_d ?_) (ee_d ?_)) ?_
  · exact ev_call C10 hr (ea_cons (nv 0) (ea_cons (nv 1) (ea_cons (nv 2) ea_nil))) ⟨n, c, lot, rfl, Wn, Wc, rfl⟩
  · exact ev_call C11 hr (ea_cons (nv 0) (ea_cons (nv 1) (ea_cons (nv 2) ea_nil))) ⟨n, c, lot, rfl, Wn, Wc, rfl⟩
  refine ho_cons (hs_setF (ds := (subs (people c)).flatMap (mineB n c lot) ++ [eLs (sendersL n c lot), eLs (stoppersL n c lot), .bool (isN (apartD n c lot)), eK (idleL n c lot)]) 6 sc72.nd (ef_cat (nv 6).lst (Ev.lst (ev_lst (ea_cons (nv 15) (ea_cons (nv 16) (ea_cons (ev_isN (d := apartD n c lot) ?_) (ea_cons ?_ ea_nil)))))) ?_)) ?_
  · exact ev_call C12 hr (ea_cons (nv 0) (ea_cons (nv 1) (ea_cons (nv 2) ea_nil))) ⟨n, c, lot, rfl, Wn, Wc, rfl⟩
  · exact ev_call C13 hr (ea_cons (nv 0) (ea_cons (nv 1) (ea_cons (nv 2) ea_nil))) ⟨n, c, lot, rfl, Wn, Wc, rfl⟩
  · rw [flat3 (fun _ => rfl)]
    exact big (by simp only [List.length_cons, List.length_nil]; omega)
  refine ho_cons (hs_setF (ds := (subs (people c)).flatMap (dueB n c lot) ++ [eLs (meetL (stoppersL n c lot) (people c)), eLs (meetL (sendersL n c lot) (people c)), .bool (fineO n c lot (subs (people c)))]) 7 sc72.nd (ef_cat (nv 7).lst (Ev.lst (ev_lst (ea_cons ?_ (ea_cons ?_ (ea_cons (nv 9) ea_nil))))) ?_)) ?_
  · exact ev_call C14 hr (ea_cons (nv 16) (ea_cons (nv 5) ea_nil)) ⟨stoppersL n c lot, people c, rfl, fun k hk => ok_stop Wc hk, ok_people Wc, pl, rfl⟩
  · exact ev_call C14 hr (ea_cons (nv 15) (ea_cons (nv 5) ea_nil)) ⟨sendersL n c lot, people c, rfl, fun k hk => ok_send Wc hk, ok_people Wc, pl, rfl⟩
  · rw [flat3 (fun _ => rfl)]
    exact big (by simp only [List.length_cons, List.length_nil]; omega)
  have lenS : ∀ gs : List (List Str), (leastsOf gs).length ≤ gs.length := fun gs => by unfold leastsOf; rw [len_srt]; exact List.length_filter_le _ _
  have l1 : (sendersL n c lot).length ≤ 32 := Nat.le_trans (lenS _) (Nat.le_trans (List.length_filter_le _ _) s32)
  have l2 : (stoppersL n c lot).length ≤ 32 := Nat.le_trans (lenS _) (Nat.le_trans (List.length_filter_le _ _) s32)
  refine ho_cons (hs_app (d := eK (idleO n c lot)) 7 ?_ ?_) ?_
  · refine ev_tupL (G.no "tuple" (by decide)) (ds := (idleO n c lot).map .str) (ef_1t (xs := people c) (en := .str) (pr := fun t => decide (((sendersL n c lot ++ stoppersL n c lot).filter fun own => decide (t ∈ own)) = [])) (f := .str) 17 sc72.nd (ei_L (nv 5)) (fun s H Cc cl fp t ht => ?_) (fun _ _ _ _ _ o ho _ => nv 17)).ev
    refine et_eqNilK hr ?_ fun o ho => (List.mem_append.mp (List.mem_filter.mp ho).1).elim (fun z => ok_send Wc z) fun z => ok_stop Wc z
    refine (ef_1t (xs := sendersL n c lot ++ stoppersL n c lot) (en := eK) (pr := fun own => decide (t ∈ own)) (f := eK) 19 sc72.nd (EvI.cast (ei_L (ef_cat (nv 15).lst (nv 16).lst ?_).ev) ?_) (fun s H Cc cl fp o ho => et_in (nv 17) (nv 19).seqT) (fun _ _ _ _ _ o ho _ => nv 19)).ev
    · exact big (by rw [List.length_map, List.length_map]; omega)
    · rw [List.map_append]
  · rw [List.length_append, flat3 (fun _ => rfl)]
    exact Nat.lt_of_lt_of_le (m := 4000) (by simp only [List.length_cons, List.length_nil]; omega) (big (Nat.le_refl _))
  generalize hm0 : (subs (people c)).flatMap (mineB n c lot) ++ [eLs (sendersL n c lot), eLs (stoppersL n c lot), .bool (isN (apartD n c lot)), eK (idleL n c lot)] = m0
  generalize hd0 : ((subs (people c)).flatMap (dueB n c lot) ++ [eLs (meetL (stoppersL n c lot) (people c)), eLs (meetL (sendersL n c lot) (people c)), .bool (fineO n c lot (subs (people c)))]) ++ [eK (idleO n c lot)] = d0
  have lm : m0.length ≤ 200 := by
    rw [← hm0, List.length_append, flat3 (fun _ => rfl)]
    simp only [List.length_cons, List.length_nil]
    omega
  have ld : d0.length ≤ 200 := by
    rw [← hd0, List.length_append, List.length_append, flat3 (fun _ => rfl)]
    simp only [List.length_cons, List.length_nil]
    omega
  refine ho_cons (hs_for (xs := people c) (en := .str) (is := [17]) (δx := fun k (_ : Unit) t => (caseδ n c lot (subs (people c))).set 6 (some (.own (m0 ++ ((people c).take k).map fun t => .int (timesD n c lot t : Nat)))) |>.set 7 (some (.own (d0 ++ ((people c).take k).map fun t => .int (2 * withN n c lot t - manyO n c lot (subs (people c)))))) |>.append [none, none, none, none, none, none, none, some (.dat (.str t)), none, none, none])
    (fun k (_ : Unit) => (caseδ n c lot (subs (people c))).set 6 (some (.own (m0 ++ ((people c).take k).map fun t => .int (timesD n c lot t : Nat)))) |>.set 7 (some (.own (d0 ++ ((people c).take k).map fun t => .int (2 * withN n c lot t - manyO n c lot (subs (people c)))))) |>.append [none, none, none, none, none, none, none, none, none, none, none]) (fun _ _ => True) () rfl PassesOwn.never trivial ?_
    (ei_L (nv 5)) (fun ps k g x hx _ => gn 17 sc72.nd) (fun ps k _ t hx _ => ?_)) ?_
  · rw [List.take_zero, List.map_nil, List.map_nil, List.append_nil, List.append_nil]
    exact .keep (.keep (.keep (.keep (.keep (.keep (.keep (.keep (.keep (.keep (.skip (.skip (.skip (.skip (.skip (.skip (.skip (.skip (.skip (.skip (.skip .nil))))))))))))))))))))
  · have ht := List.mem_of_getElem? hx
    have lk : ((people c).take k).length ≤ 5 := by rw [List.length_take]; omega
    refine ho_cons (hs_app 6 (ev_call C15 hr (ea_cons (nv 0) (ea_cons (nv 1) (ea_cons (nv 2) (ea_cons (nv 17) ea_nil)))) ⟨n, c, lot, t, rfl, Wn, Wc, ht, rfl⟩) ?_) ?_
    · rw [List.length_append, List.length_map]
      exact Nat.lt_of_lt_of_le (m := 4000) (by omega) (big (Nat.le_refl _))
    refine ho_cons (hs_1t (xs := subs (people c)) (en := eK) (pr := fun g => decide (t ∈ g) && sendsB n c lot g) (f := eK) 18 10 sc72.nd (ei_L (ds := (subs (people c)).map eK) (ev_call C3 hr (ea_cons (nv 5) ea_nil) ⟨false, people c, rfl, Nat.le_trans pl (by decide), rfl⟩)) (fun s H Cc cl fp g hg => EvW.t (ew_and (et_in (nv 17) (nv 10).seqT) fun _ => ew_and1 (et_v (ev_call C6 hr (ea_cons (nv 0) (ea_cons (nv 1) (ea_cons (nv 2) (ea_cons (nv 10) ea_nil)))) ⟨n, c, lot, g, rfl, Wn, Wc, memP hg, rfl⟩)))) (fun _ _ _ _ _ x _ _ => nv 10)) ?_
    refine ho_post (ho_one (hs_app (d := .int (2 * withN n c lot t - manyO n c lot (subs (people c)))) 7 (ev_sub (Ev.cast (ev_mul ev_int (ev_len (G.no "len" (by decide)) (no 18)) (.inl (by decide))) ?_) (nv 8)) ?_)) fun σ' H' h => ⟨(), trivial, ?_⟩
    · rw [List.length_map]
      rfl
    · rw [List.length_append, List.length_map]
      exact Nat.lt_of_lt_of_le (m := 4000) (by omega) (big (Nat.le_refl _))
    · rw [take_end hx, List.map_append, List.map_append, ← List.append_assoc, ← List.append_assoc]
      exact Kn.les (.keep (.keep (.keep (.keep (.keep (.keep (.keep (.keep (.keep (.keep (.skip (.skip (.skip (.skip (.skip (.skip (.skip (.skip (.skip (.skip (.skip .nil))))))))))))))))))))) _ _ h
  refine ho_ex fun _ => ho_and fun _ => ?_
  rw [List.take_length]
  have e1 : m0 ++ (people c).map (fun t => PyData.int (timesD n c lot t : Nat)) = mineD n c lot := by rw [← hm0]; rfl
  have e2 : d0 ++ (people c).map (fun t => PyData.int (2 * withN n c lot t - manyO n c lot (subs (people c)))) = dueD n c lot := by rw [← hd0]; rfl
  rw [e1, e2, ← eq]
  refine ho_freeze 6 rfl (ho_freeze 7 rfl ?_)
  exact ho_one (hs_ret (ev_call C16 hr (ea_cons (nv 6) (ea_cons (nv 7) ea_nil)) ⟨.list (mineD n c lot), rfl, lev_mine Wn Wc, rfl⟩))
end
end Kl
/-! M3: mine is due. -/
namespace Kl
open PySem PySem.Spec PyProof.Rows L2 PySem.W
theorem find_min {α : Type} {f : α → Nat} {p : α → Bool} : ∀ {l : List α} {x : α}, l.Pairwise (fun a b => f a ≤ f b) → l.find? p = some x → ∀ y ∈ l, p y = true → f x ≤ f y
  | [], _, _, h, _, _, _ => by cases h
  | a :: r, x, up, h, y, hy, py => by
    obtain ⟨u1, u2⟩ := List.pairwise_cons.mp up
    rw [List.find?_cons] at h
    cases z : p a with
    | true =>
      rw [z] at h
      cases h
      rcases List.mem_cons.mp hy with rfl | hy
      · exact Nat.le_refl _
      · exact u1 y hy
    | false =>
      rw [z] at h
      rcases List.mem_cons.mp hy with rfl | hy
      · rw [z] at py; cases py
      · exact find_min u2 h y hy py
section
variable {n : Net} {c : Crew} {lot : List Int}
theorem hands_eq (W : Pos0 n) (g : List Str) : handsD n c lot g = wantD (openersL n lot) (heldBy c g) (heldBy c (people c)) g := by
  -- what is wanted of an opener
  have wp : ∀ own, wantP (heldBy c g) (heldBy c (people c)) g own = true ↔ (∀ x ∈ own, x ∉ heldBy c g → x ∈ heldBy c (people c)) ∧ ((∀ x ∈ own, x ∈ heldBy c g) ∨ g ≠ []) := fun own => by
    unfold wantP moreOf
    rw [Bool.and_eq_true, Bool.or_eq_true, decide_eq_true_eq, decide_eq_true_eq, Bool.not_eq_true', decide_eq_false_iff_not, List.filter_eq_nil_iff, List.filter_eq_nil_iff]
    simp only [List.mem_filter, Bool.not_eq_true', decide_eq_false_iff_not, and_imp, Bool.not_eq_true, decide_eq_true_eq, Decidable.not_not, Bool.not_eq_false']
  have gs : ∀ some : List Str, goesB n (setT (heldBy c g ++ some)) lot = true ↔ ∃ own ∈ openersL n lot, ∀ r ∈ own, r ∈ heldBy c g ∨ r ∈ some := fun some => by
    rw [goes_open W]
    refine exists_congr fun own => and_congr_right fun _ => forall_congr' fun r => forall_congr' fun _ => ?_
    unfold setT
    rw [mem_setS, List.mem_append]
  have subO : ∀ {own}, own ∈ openersL n lot → own.Sublist (keysOf n) := fun h => mem_subs.mp (List.mem_filter.mp (mem_leastsK.mp h).1).1
  have itm : ∀ x, x ∈ itsOf n c g ↔ x ∈ keysOf n ∧ x ∈ heldBy c (people c) ∧ x ∉ heldBy c g ∧ g ≠ [] := fun x => by
    unfold itsOf
    rw [List.mem_filter, Bool.and_eq_true, Bool.and_eq_true, decide_eq_true_eq, decide_eq_true_eq, Bool.not_eq_true', decide_eq_false_iff_not, List.length_pos_iff]
  -- from an opener to what is added
  have A : ∀ own ∈ openersL n lot, wantP (heldBy c g) (heldBy c (people c)) g own = true → ∃ some ∈ subs (itsOf n c g), some.length = (moreOf own (heldBy c g)).length ∧ goesB n (setT (heldBy c g ++ some)) lot = true := fun own ho hw => by
    obtain ⟨w1, w2⟩ := (wp own).mp hw
    refine ⟨moreOf own (heldBy c g), mem_subs.mpr ?_, rfl, (gs _).mpr ⟨own, ho, fun r hr => ?_⟩⟩
    · refine sub_of (keysOf_nd n) (List.filter_sublist.trans (subO ho)) (by unfold itsOf; exact List.filter_sublist) fun x hx => ?_
      obtain ⟨x1, x2⟩ := List.mem_filter.mp hx
      have x2 : x ∉ heldBy c g := by simpa using x2
      exact (itm x).mpr ⟨(subO ho).subset x1, w1 x x1 x2, x2, w2.resolve_left fun z => x2 (z x x1)⟩
    · by_cases z : r ∈ heldBy c g
      · exact .inl z
      · exact .inr (List.mem_filter.mpr ⟨hr, by simpa using z⟩)
  -- and back
  have B : ∀ some ∈ subs (itsOf n c g), goesB n (setT (heldBy c g ++ some)) lot = true → ∃ own ∈ openersL n lot, wantP (heldBy c g) (heldBy c (people c)) g own = true ∧ (moreOf own (heldBy c g)).length ≤ some.length := fun some hs hg => by
    obtain ⟨own, ho, h⟩ := (gs some).mp hg
    have hs := mem_subs.mp hs
    refine ⟨own, ho, (wp own).mpr ⟨fun x hx nx => ((itm x).mp (hs.subset ((h x hx).resolve_left nx))).2.1, ?_⟩, ?_⟩
    · by_cases e : g = []
      · refine .inl fun x hx => (h x hx).resolve_right fun z => ((itm x).mp (hs.subset z)).2.2.2 e
      · exact .inr e
    · refine List.Sublist.length_le (sub_of (keysOf_nd n) (List.filter_sublist.trans (subO ho)) (hs.trans (by unfold itsOf; exact List.filter_sublist)) fun x hx => ?_)
      obtain ⟨x1, x2⟩ := List.mem_filter.mp hx
      exact (h x x1).resolve_left (by simpa using x2)
  have mw : ∀ m : Int, m ∈ wantL (openersL n lot) (heldBy c g) (heldBy c (people c)) g ↔ ∃ own ∈ openersL n lot, wantP (heldBy c g) (heldBy c (people c)) g own = true ∧ ((moreOf own (heldBy c g)).length : Int) = m := fun m => by
    unfold wantL
    rw [List.mem_map]
    constructor
    · rintro ⟨own, ho, e⟩
      obtain ⟨h1, h2⟩ := List.mem_filter.mp ho
      exact ⟨own, h1, h2, e⟩
    · rintro ⟨own, h1, h2, e⟩
      exact ⟨own, List.mem_filter.mpr ⟨h1, h2⟩, e⟩
  unfold handsD wantD wantedK
  cases z : (byLen (subs (itsOf n c g))).find? (fun p => goesB n (setT (heldBy c g ++ p.2)) lot) with
  | none =>
    have no := List.find?_eq_none.mp z
    rw [if_pos]
    · rfl
    · refine List.eq_nil_iff_forall_not_mem.mpr fun m hm => ?_
      obtain ⟨own, ho, hw, _⟩ := (mw m).mp hm
      obtain ⟨some, s1, s2, s3⟩ := A own ho hw
      exact no (some.length, some) (byLen_mem.mpr ⟨rfl, s1⟩) s3
  | some q =>
    have q1 : goesB n (setT (heldBy c g ++ q.2)) lot = true := by simpa using List.find?_some z
    obtain ⟨q2, q3⟩ := byLen_mem.mp (List.mem_of_find?_eq_some z)
    obtain ⟨own, ho, hw, hl⟩ := B q.2 q3 q1
    have low : ∀ y ∈ wantL (openersL n lot) (heldBy c g) (heldBy c (people c)) g, (q.2.length : Int) ≤ y := fun y hy => by
      obtain ⟨own', ho', hw', rfl⟩ := (mw y).mp hy
      obtain ⟨some, s1, s2, s3⟩ := A own' ho' hw'
      have := find_min (f := fun p : Nat × List Str => p.1) (byLen_up _) z (some.length, some) (byLen_mem.mpr ⟨rfl, s1⟩) s3
      simp only at this
      omega
    have mem := (mw _).mpr ⟨own, ho, hw, rfl⟩
    rw [if_neg (List.ne_nil_of_mem mem)]
    show PyData.int _ = PyData.int _
    congr 1
    refine minI_eq ?_ low
    have := low _ mem
    have e : ((moreOf own (heldBy c g)).length : Int) = (q.2.length : Int) := by omega
    rw [← e]
    exact mem
theorem isN_apart (W : Pos0 n) : isN (apartD n c lot) = fineO n c lot (subs (people c)) := by
  unfold apartD fineO
  cases z : (subs (people c)).find? (fun g => sendsB n c lot g && sendsB n c lot (butOf (people c) g)) with
  | none =>
    have no := List.find?_eq_none.mp z
    refine (List.all_eq_true.mpr fun g hg => ?_).symm
    rw [sO_eq W, tO_eq W]
    unfold stopsB
    have := no g hg
    revert this
    cases sendsB n c lot g <;> cases sendsB n c lot (butOf (people c) g) <;> simp
  | some q =>
    have h1 := List.find?_some z
    have h2 := List.mem_of_find?_eq_some z
    symm
    show _ = false
    rw [List.all_eq_false]
    refine ⟨q, h2, ?_⟩
    rw [sO_eq W, tO_eq W]
    unfold stopsB
    revert h1
    cases sendsB n c lot q <;> cases sendsB n c lot (butOf (people c) q) <;> simp
theorem case_eq (W : Pos0 n) (Wc : WfC c) : mineD n c lot = dueD n c lot := by
  have mono : ∀ a b : List Str, (∀ x ∈ a, x ∈ b) → sendsB n c lot a = true → sendsB n c lot b = true := fun a b s h => sends_mono W s h
  have nd := Wc.nd
  have hw : ∀ t ∈ people c, ∀ g ∈ subs (people c), withOne g t ∈ subs (people c) ∧ ∀ x, x ∈ withOne g t ↔ x ∈ g ∨ x = t := fun t ht g hg => ⟨with_mem Wc hg ht, fun x => by
    unfold withOne setT
    rw [mem_setS, List.mem_append, List.mem_singleton]⟩
  have e1 : (subs (people c)).flatMap (mineB n c lot) = (subs (people c)).flatMap (dueB n c lot) := by
    congr 1
    funext g
    unfold mineB dueB
    rw [sO_eq W, tO_eq W, hands_eq W]
  have e2 : meetL (stoppersL n c lot) (people c) = sendersL n c lot := meet_stop (S := sendsB n c lot) nd mono
  have e3 : meetL (sendersL n c lot) (people c) = stoppersL n c lot := meet_send (S := sendsB n c lot) nd mono
  have e4 : idleL n c lot = idleO n c lot := by
    unfold idleL idleO
    refine List.filter_congr fun t ht => ?_
    have := times_zero (S := sendsB n c lot) (t := t) (wo := fun g => withOne g t) nd ht mono (hw t ht)
    have : decide (timesD n c lot t = 0) = decide (((sendersL n c lot ++ stoppersL n c lot).filter fun own => decide (t ∈ own)) = []) := decide_eq_decide.mpr this
    exact this
  have e5 : ∀ t ∈ people c, (timesD n c lot t : Int) = 2 * withN n c lot t - manyO n c lot (subs (people c)) := fun t ht => by
    have h := times_count (S := sendsB n c lot) (t := t) (wo := fun g => withOne g t) nd ht mono (hw t ht)
    unfold manyO withN
    rw [List.filter_congr fun g _ => sO_eq W g]
    exact h
  have e6 : (people c).map (fun t => PyData.int (timesD n c lot t : Nat)) = (people c).map fun t => PyData.int (2 * withN n c lot t - manyO n c lot (subs (people c))) :=
    List.map_congr_left fun t ht => by rw [e5 t ht]
  unfold mineD dueD
  rw [e1, e2, e3, e4, e6, isN_apart W]
  simp only [List.append_assoc, List.cons_append, List.nil_append]
end
end Kl
/-! W12: the case by hand. -/
namespace Kl
open PySem PySem.Spec PyProof.Rows L2 PySem.W
open C8 (Cal pe_c)
def Sright : List PyData → PyData → Prop := fun ds r => ∃ n c lot, ds = [eN n, eCr c, eLot lot] ∧ WfN n ∧ Pos0 n ∧ WfC c ∧ r = .bool true
theorem right_case {ds : List PyData} {r : PyData} (h : Sright ds r) : Scase ds r := by
  obtain ⟨n, c, lot, e, Wn, W0, Wc, q⟩ := h
  exact ⟨n, c, lot, e, Wn, Wc, case_eq W0 Wc, q⟩
def net0 : Net := ⟨[("shore", 0), ("wharf", 9)], [("one", "wharf", "shore", 3, "red"), ("two", "wharf", "shore", 2, "blue")], [("pat", "shore")]⟩
def crew0 : Crew := [("ann", ["red"]), ("bo", ["blue"]), ("cy", ["blue", "red"])]
def lone0 : Crew := [("ann", ["red"]), ("bo", ["odd"])]
theorem wfN0 : WfN net0 := ⟨by decide +kernel, by decide, by decide, by decide +kernel⟩
theorem pos00 : Pos0 net0 := by unfold Pos0; decide
theorem wfC0 : WfC crew0 := ⟨by decide +kernel, by decide, by decide +kernel, by decide +kernel, by decide⟩
theorem wfL0 : WfC lone0 := ⟨by decide +kernel, by decide, by decide +kernel, by decide +kernel, by decide⟩
def Sdock : List PyData → PyData → Prop := fun ds r => ds = [] ∧ r = .tuple [eN net0, eCr crew0]
section
variable {X : Cx} {C : Cfg} {δ : Dl} {r : PyData} {pos p : Pos}
theorem ev_call0 {j lv : Nat} {x : Str} {S : List PyData → PyData → Prop} (cl : Cal X.prog X.w X.K X.mg X.base lv x (spR 0 S) []) (hr : Room j X.A) (hS : S [] r) (hk : lv ≤ j := by decide) (hg : Gl X x := by rfl)
    (hdb : (x == ("__debug__" : Str)) = false := by decide) : Ev X C δ (.Call (.Name x p) [] [] pos) r := by
  obtain ⟨f, fd, ps, ds, F, hm, kp, b, d⟩ := cl.ex
  exact Ev.mk (pe_call0 F (hr.mono hk) hg hm kp b d pass0 hdb) fun M σ H Q ok q => ⟨rfl, M, [], r, ok.trk, .nil, hS, fun v H2 s2 rv sm2 => q v H2 sm2 s2 rv⟩
end
section
variable {P : Program} {w : World} {K : PySem.W.Frag} {mg : Str → Option Value} {base : Heap}
theorem sc66 : FnScope ["_law_lines", "_law_crew_here"] [] (defScope (topS 66)) := ⟨rfl, rfl, rfl, by decide +kernel, rfl, by decide +kernel, by decide +kernel⟩
theorem c_dock (F : Df K mg "_law_dock" [] (topS 66)) : Cal P w K mg base 1 "_law_dock" (spR 0 Sdock) [] := by
  refine cal_of F sc66 rfl fun f cdv A outer s H E M hr ds r hS => ?_
  obtain ⟨rfl, rfl⟩ := hS
  refine ho_no (ho_cons (hs_set (d := .tuple (net0.ls.map eL)) 0 sc66.nd ?_) (ho_cons (hs_set (d := eCr crew0) 1 sc66.nd ?_) (ho_one (hs_ret ?_))))
  · exact ev_tup (ea_cons (ev_tup (ea_cons ev_str (ea_cons ev_str (ea_cons ev_str (ea_cons ev_int (ea_cons ev_str ea_nil)))))) (ea_cons (ev_tup (ea_cons ev_str (ea_cons ev_str (ea_cons ev_str (ea_cons ev_int (ea_cons ev_str ea_nil)))))) ea_nil))
  · exact ev_tup (ea_cons (ev_tup (ea_cons ev_str (ea_cons (ev_tup (ea_cons ev_str ea_nil)) ea_nil))) (ea_cons (ev_tup (ea_cons ev_str (ea_cons (ev_tup (ea_cons ev_str ea_nil)) ea_nil))) (ea_cons (ev_tup (ea_cons ev_str (ea_cons (ev_tup (ea_cons ev_str (ea_cons ev_str ea_nil))) ea_nil))) ea_nil)))
  · exact ev_tup (ea_cons (ev_tup (ea_cons (ev_tup (ea_cons (ev_tup (ea_cons ev_str (ea_cons ev_int ea_nil))) (ea_cons (ev_tup (ea_cons ev_str (ea_cons ev_int ea_nil))) ea_nil))) (ea_cons (nv 0) (ea_cons (ev_tup (ea_cons (ev_tup (ea_cons ev_str (ea_cons ev_str ea_nil))) ea_nil)) ea_nil)))) (ea_cons (nv 1) ea_nil))
def mineH : List PyData :=
  ((([eTs (openersL net0 [4]), eTs (barriersL net0 [4]), eTs (openersL net0 [2]), eTs (barriersL net0 [2]), eTs (barriersL net0 [6])] ++ [eLs (sendersL net0 lone0 [5]), eLs (stoppersL net0 lone0 [5]), handsD net0 lone0 [5] ["ann"]]) ++ [eLs (sendersL net0 lone0 [3]), eLs (stoppersL net0 lone0 [3]), handsD net0 lone0 [3] ["bo"]]) ++ [apartD net0 lone0 [3]]) ++
  [eLs (meetL [["ann", "bo"], ["cy"]] ["ann", "bo", "cy"]), eLs (meetL [] ["ann"])] ++ [eLs (meetL [[]] ["ann"])]
def dueH : List PyData :=
  ([eTs [["blue", "red"]], eTs [["blue"], ["red"]], eTs [["blue"], ["red"]], eTs [["blue", "red"]], eTs [[]]] ++ [eLs [], eLs [[]], .none, eLs [["ann"]], eLs [["ann"]], .int 1, .none]) ++ [eLs [["ann", "cy"], ["bo", "cy"]], eLs [[]], eLs []]
theorem hand_eq : mineH = dueH := by
  have a1 : openersL net0 [4] = ([["blue", "red"]] : List (List Str)) := by decide +kernel
  have a2 : barriersL net0 [4] = ([["blue"], ["red"]] : List (List Str)) := by decide +kernel
  have a3 : openersL net0 [2] = ([["blue"], ["red"]] : List (List Str)) := by decide +kernel
  have a4 : barriersL net0 [2] = ([["blue", "red"]] : List (List Str)) := by decide +kernel
  have a5 : barriersL net0 [6] = [[]] := by decide +kernel
  have a6 : sendersL net0 lone0 [5] = [] := by decide +kernel
  have a7 : stoppersL net0 lone0 [5] = [[]] := by decide +kernel
  have a8 : wantedK net0 lone0 [5] ["ann"] = none := by decide +kernel
  have a9 : sendersL net0 lone0 [3] = ([["ann"]] : List (List Str)) := by decide +kernel
  have a10 : stoppersL net0 lone0 [3] = ([["ann"]] : List (List Str)) := by decide +kernel
  have a11 : wantedK net0 lone0 [3] ["bo"] = some (["red"] : List Str) := by decide +kernel
  have a12 : ((subs (people lone0)).find? fun g => sendsB net0 lone0 [3] g && sendsB net0 lone0 [3] (butOf (people lone0) g)) = none := by decide +kernel
  have a13 : meetL [["ann", "bo"], ["cy"]] ["ann", "bo", "cy"] = ([["ann", "cy"], ["bo", "cy"]] : List (List Str)) := by decide +kernel
  have a14 : meetL [] ["ann"] = [[]] := by decide +kernel
  have a15 : meetL [[]] ["ann"] = [] := by decide +kernel
  unfold mineH dueH handsD apartD
  rw [a1, a2, a3, a4, a5, a6, a7, a8, a9, a10, a11, a12, a13, a14, a15]
  rfl
theorem lev_dueH : lev 3 (.list dueH) = true := by decide +kernel
def Shand : List PyData → PyData → Prop := fun ds r => ds = [] ∧ r = .bool true
theorem sc73 : FnScope ["_law_web_here", "_law_crew_here", "_law_mine", "_law_due", "_law_lone", "_law_own"] [] (defScope (topS 73)) := ⟨rfl, rfl, rfl, by decide +kernel, rfl, by decide +kernel, by decide +kernel⟩
theorem c_hand (G : Mg mg) (F : Df K mg "_law_by_hand_right" [] (topS 73)) (C0 : Cal P w K mg base 1 "_law_dock" (spR 0 Sdock) [])
    (C1 : Cal P w K mg base 6 "openers" (spR 2 Sopeners) []) (C2 : Cal P w K mg base 5 "barriers" (spR 2 Sbarriers) []) (C8 : Cal P w K mg base 5 "fewest_hands" (spR 4 Sfewest) []) (C10 : Cal P w K mg base 5 "senders" (spR 3 Ssenders) []) (C11 : Cal P w K mg base 5 "stoppers" (spR 3 Sstoppers) [])
    (C12 : Cal P w K mg base 5 "apart" (spR 3 Sapart) []) (C14 : Cal P w K mg base 2 "_law_meet" (spR 2 Smeet) []) (C16 : Cal P w K mg base 4 "_law_same" (spR 2 (Ssame 3)) []) (C17 : Cal P w K mg base 7 "_law_case_right" (spR 3 Scase) []) : Cal P w K mg base 8 "_law_by_hand_right" (spR 0 Shand) [] := by
  refine cal_of F sc73 rfl fun f cdv A outer s H E M hr ds r hS => ?_
  obtain ⟨rfl, rfl⟩ := hS
  refine ho_no (ho_cons (hs_asg (d := .tuple [eN net0, eCr crew0]) (ev_call0 C0 hr ⟨rfl, rfl⟩) (gn2 (i := 0) (j := 1) rfl (fun δ d => gn 0 sc73.nd) (fun δ d => gn 1 sc73.nd))) ?_)
  refine ho_cons (hs_set (d := .list [eTs (openersL net0 [4]), eTs (barriersL net0 [4]), eTs (openersL net0 [2]), eTs (barriersL net0 [2]), eTs (barriersL net0 [6])]) 2 sc73.nd (ev_lst (ea_cons ?_ (ea_cons ?_ (ea_cons ?_ (ea_cons ?_ (ea_cons ?_ ea_nil))))))) ?_
  · exact ev_call C1 hr (ea_cons (nv 0) (ea_cons (ev_tup (ea_cons ev_int ea_nil)) ea_nil)) ⟨net0, [4], rfl, wfN0, rfl⟩
  · exact ev_call C2 hr (ea_cons (nv 0) (ea_cons (ev_tup (ea_cons ev_int ea_nil)) ea_nil)) ⟨net0, [4], rfl, wfN0, rfl⟩
  · exact ev_call C1 hr (ea_cons (nv 0) (ea_cons (ev_tup (ea_cons ev_int ea_nil)) ea_nil)) ⟨net0, [2], rfl, wfN0, rfl⟩
  · exact ev_call C2 hr (ea_cons (nv 0) (ea_cons (ev_tup (ea_cons ev_int ea_nil)) ea_nil)) ⟨net0, [2], rfl, wfN0, rfl⟩
  · exact ev_call C2 hr (ea_cons (nv 0) (ea_cons (ev_tup (ea_cons ev_int ea_nil)) ea_nil)) ⟨net0, [6], rfl, wfN0, rfl⟩
  refine ho_cons (hs_set (d := .list [eTs [["blue", "red"]], eTs [["blue"], ["red"]], eTs [["blue"], ["red"]], eTs [["blue", "red"]], eTs [[]]]) 3 sc73.nd (ev_lst (ea_cons ?_ (ea_cons ?_ (ea_cons ?_ (ea_cons ?_ (ea_cons ?_ ea_nil))))))) ?_
  · exact ev_tup (ea_cons (ev_tup (ea_cons ev_str (ea_cons ev_str ea_nil))) ea_nil)
  · exact ev_tup (ea_cons (ev_tup (ea_cons ev_str ea_nil)) (ea_cons (ev_tup (ea_cons ev_str ea_nil)) ea_nil))
  · exact ev_tup (ea_cons (ev_tup (ea_cons ev_str ea_nil)) (ea_cons (ev_tup (ea_cons ev_str ea_nil)) ea_nil))
  · exact ev_tup (ea_cons (ev_tup (ea_cons ev_str (ea_cons ev_str ea_nil))) ea_nil)
  · exact ev_tup (ea_cons (ev_tup ea_nil) ea_nil)
  refine ho_cons (hs_set (d := eCr lone0) 4 sc73.nd (ev_tup (ea_cons (ev_tup (ea_cons ev_str (ea_cons (ev_tup (ea_cons ev_str ea_nil)) ea_nil))) (ea_cons (ev_tup (ea_cons ev_str (ea_cons (ev_tup (ea_cons ev_str ea_nil)) ea_nil))) ea_nil)))) ?_
  refine ho_cons (hs_set (d := .list ([eTs (openersL net0 [4]), eTs (barriersL net0 [4]), eTs (openersL net0 [2]), eTs (barriersL net0 [2]), eTs (barriersL net0 [6])] ++ [eLs (sendersL net0 lone0 [5]), eLs (stoppersL net0 lone0 [5]), handsD net0 lone0 [5] ["ann"]])) 2 sc73.nd (ef_cat (nv 2).lst (Ev.lst (ev_lst (ea_cons ?_ (ea_cons ?_ (ea_cons ?_ ea_nil))))) (by decide +kernel)).ev) ?_
  · exact ev_call C10 hr (ea_cons (nv 0) (ea_cons (nv 4) (ea_cons (ev_tup (ea_cons ev_int ea_nil)) ea_nil))) ⟨net0, lone0, [5], rfl, wfN0, wfL0, rfl⟩
  · exact ev_call C11 hr (ea_cons (nv 0) (ea_cons (nv 4) (ea_cons (ev_tup (ea_cons ev_int ea_nil)) ea_nil))) ⟨net0, lone0, [5], rfl, wfN0, wfL0, rfl⟩
  · exact ev_call C8 hr (ea_cons (nv 0) (ea_cons (nv 4) (ea_cons (ev_tup (ea_cons ev_int ea_nil)) (ea_cons (ev_tup (ea_cons ev_str ea_nil)) ea_nil)))) ⟨net0, lone0, [5], ["ann"], rfl, wfN0, wfL0, by decide +kernel, rfl⟩
  refine ho_cons (hs_set (d := .list (([eTs (openersL net0 [4]), eTs (barriersL net0 [4]), eTs (openersL net0 [2]), eTs (barriersL net0 [2]), eTs (barriersL net0 [6])] ++ [eLs (sendersL net0 lone0 [5]), eLs (stoppersL net0 lone0 [5]), handsD net0 lone0 [5] ["ann"]]) ++ [eLs (sendersL net0 lone0 [3]), eLs (stoppersL net0 lone0 [3]), handsD net0 lone0 [3] ["bo"]])) 2 sc73.nd (ef_cat (nv 2).lst (Ev.lst (ev_lst (ea_cons ?_ (ea_cons ?_ (ea_cons ?_ ea_nil))))) (by decide +kernel)).ev) ?_
  · exact ev_call C10 hr (ea_cons (nv 0) (ea_cons (nv 4) (ea_cons (ev_tup (ea_cons ev_int ea_nil)) ea_nil))) ⟨net0, lone0, [3], rfl, wfN0, wfL0, rfl⟩
  · exact ev_call C11 hr (ea_cons (nv 0) (ea_cons (nv 4) (ea_cons (ev_tup (ea_cons ev_int ea_nil)) ea_nil))) ⟨net0, lone0, [3], rfl, wfN0, wfL0, rfl⟩
  · exact ev_call C8 hr (ea_cons (nv 0) (ea_cons (nv 4) (ea_cons (ev_tup (ea_cons ev_int ea_nil)) (ea_cons (ev_tup (ea_cons ev_str ea_nil)) ea_nil)))) ⟨net0, lone0, [3], ["bo"], rfl, wfN0, wfL0, by decide +kernel, rfl⟩
  refine ho_cons (hs_set (d := .list ((([eTs (openersL net0 [4]), eTs (barriersL net0 [4]), eTs (openersL net0 [2]), eTs (barriersL net0 [2]), eTs (barriersL net0 [6])] ++ [eLs (sendersL net0 lone0 [5]), eLs (stoppersL net0 lone0 [5]), handsD net0 lone0 [5] ["ann"]]) ++ [eLs (sendersL net0 lone0 [3]), eLs (stoppersL net0 lone0 [3]), handsD net0 lone0 [3] ["bo"]]) ++ [apartD net0 lone0 [3]])) 2 sc73.nd (ef_cat (nv 2).lst (Ev.lst (ev_lst (ea_cons ?_ ea_nil))) (by decide +kernel)).ev) ?_
  · exact ev_call C12 hr (ea_cons (nv 0) (ea_cons (nv 4) (ea_cons (ev_tup (ea_cons ev_int ea_nil)) ea_nil))) ⟨net0, lone0, [3], rfl, wfN0, wfL0, rfl⟩
  refine ho_cons (hs_set (d := .list ([eTs [["blue", "red"]], eTs [["blue"], ["red"]], eTs [["blue"], ["red"]], eTs [["blue", "red"]], eTs [[]]] ++ [eLs [], eLs [[]], .none, eLs [["ann"]], eLs [["ann"]], .int 1, .none])) 3 sc73.nd (ef_cat (nv 3).lst (Ev.lst (ev_lst (ea_cons ef_nil.ev (ea_cons (ev_lst (ea_cons (ev_tup ea_nil) ea_nil)) (ea_cons ev_non (ea_cons (ev_lst (ea_cons (ev_tup (ea_cons ev_str ea_nil)) ea_nil)) (ea_cons (ev_lst (ea_cons (ev_tup (ea_cons ev_str ea_nil)) ea_nil)) (ea_cons ev_int (ea_cons ev_non ea_nil))))))))) (by decide +kernel)).ev) ?_
  refine ho_cons (hs_set (d := .list (((([eTs (openersL net0 [4]), eTs (barriersL net0 [4]), eTs (openersL net0 [2]), eTs (barriersL net0 [2]), eTs (barriersL net0 [6])] ++ [eLs (sendersL net0 lone0 [5]), eLs (stoppersL net0 lone0 [5]), handsD net0 lone0 [5] ["ann"]]) ++ [eLs (sendersL net0 lone0 [3]), eLs (stoppersL net0 lone0 [3]), handsD net0 lone0 [3] ["bo"]]) ++ [apartD net0 lone0 [3]]) ++ [eLs (meetL [["ann", "bo"], ["cy"]] ["ann", "bo", "cy"]), eLs (meetL [] ["ann"])])) 2 sc73.nd (ef_cat (nv 2).lst (Ev.lst (ev_lst (ea_cons ?_ (ea_cons ?_ ea_nil)))) (by decide +kernel)).ev) ?_
  · exact ev_call C14 hr (ea_cons (ev_lst (ea_cons (ev_tup (ea_cons ev_str (ea_cons ev_str ea_nil))) (ea_cons (ev_tup (ea_cons ev_str ea_nil)) ea_nil))) (ea_cons (ev_lst (ea_cons ev_str (ea_cons ev_str (ea_cons ev_str ea_nil)))) ea_nil)) ⟨[["ann", "bo"], ["cy"]], ["ann", "bo", "cy"], rfl, by decide +kernel, by decide +kernel, by decide, rfl⟩
  · exact ev_call C14 hr (ea_cons ef_nil.ev (ea_cons (ev_lst (ea_cons ev_str ea_nil)) ea_nil)) ⟨[], ["ann"], rfl, by decide +kernel, by decide +kernel, by decide, rfl⟩
  refine ho_cons (hs_set (d := .list mineH) 2 sc73.nd (ef_cat (nv 2).lst (Ev.lst (ev_lst (ea_cons ?_ ea_nil))) (by decide +kernel)).ev) ?_
  · exact ev_call C14 hr (ea_cons (ev_lst (ea_cons (ev_tup ea_nil) ea_nil)) (ea_cons (ev_lst (ea_cons ev_str ea_nil)) ea_nil)) ⟨[[]], ["ann"], rfl, by decide +kernel, by decide +kernel, by decide, rfl⟩
  refine ho_cons (hs_set (d := .list dueH) 3 sc73.nd (ef_cat (nv 3).lst (Ev.lst (ev_lst (ea_cons (ev_lst (ea_cons (ev_tup (ea_cons ev_str (ea_cons ev_str ea_nil))) (ea_cons (ev_tup (ea_cons ev_str (ea_cons ev_str ea_nil))) ea_nil))) (ea_cons (ev_lst (ea_cons (ev_tup ea_nil) ea_nil)) (ea_cons ef_nil.ev ea_nil))))) (by decide +kernel)).ev) ?_
  rw [hand_eq]
  refine ho_ifr (k := !true || !true) (EvW.t (ew_or (et_not (et_v ?_)) fun _ => ew_or1 (et_not (et_v ?_)))) (fun z => nomatch z) fun _ => ho_one (hs_ret ?_)
  · exact ev_call C16 hr (ea_cons (nv 2) (ea_cons (nv 3) ea_nil)) ⟨.list dueH, rfl, lev_dueH, rfl⟩
  · refine Ev.cast (ev_all (bs := [[3], [5]].map fun _ : List Int => true) (G.no "all" (by decide)) rfl ?_) rfl
    refine (ef_1 (xs := [[3], [5]]) (en := eLot) (f := fun _ => .bool true) 5 sc73.nd (ei_T (ev_tup (ea_cons (ev_tup (ea_cons ev_int ea_nil)) (ea_cons (ev_tup (ea_cons ev_int ea_nil)) ea_nil)))) (fun _ _ _ _ _ x _ => ?_)).ev
    exact ev_call C17 hr (ea_cons (nv 0) (ea_cons (nv 4) (ea_cons (nv 5) ea_nil))) (right_case ⟨net0, lone0, x, rfl, wfN0, pos00, wfL0, rfl⟩)
  · refine Ev.cast (ev_all (bs := [[0], [2], [3], [4], [6]].map fun _ : List Int => true) (G.no "all" (by decide)) rfl ?_) rfl
    refine (ef_1 (xs := [[0], [2], [3], [4], [6]]) (en := eLot) (f := fun _ => .bool true) 5 sc73.nd (ei_T (ev_tup (ea_cons (ev_tup (ea_cons ev_int ea_nil)) (ea_cons (ev_tup (ea_cons ev_int ea_nil)) (ea_cons (ev_tup (ea_cons ev_int ea_nil)) (ea_cons (ev_tup (ea_cons ev_int ea_nil)) (ea_cons (ev_tup (ea_cons ev_int ea_nil)) ea_nil))))))) (fun _ _ _ _ _ x _ => ?_)).ev
    exact ev_call C17 hr (ea_cons (nv 0) (ea_cons (nv 1) (ea_cons (nv 5) ea_nil))) (right_case ⟨net0, crew0, x, rfl, wfN0, pos00, wfC0, rfl⟩)
end
end Kl
/-! W13: the box is drawn from. -/
namespace Kl
open PySem PySem.Spec PyProof.Rows L2 PySem.W
open C8 (Cal pe_c)
def Ex (g s c : Int) : Int → Int → Int → Prop := fun g' s' c' => g' = g ∧ s' = s ∧ c' = c
section
variable {X : Cx} {C : Cfg} {δ : Dl} {a b e : Expr} {P P' : Int → Int → Int → Prop} {sts : List Stmt} {st : Stmt} {R Pre : Ass} {Φ Φ' : VK} {pos p : Pos} {g s c v g' s' c' i j : Int}
theorem ho_open (h : ∀ g s c, P g s c → Ho X (Kn C (some (.box (Ex g s c)) :: δ)) sts R Φ) : Ho X (Kn C (some (.box P) :: δ)) sts R Φ := by
  refine ho_pre (ho_ex fun g => ho_ex fun s => ho_ex fun c => ho_and fun q => h g s c q) fun σ H hk => ?_
  obtain ⟨M, ok⟩ := hk
  obtain ⟨b, h1, h2, h3, g, s, c, h4, h5⟩ := ok.box
  exact ⟨g, s, c, h5, M, ok.boxed h1 (fun _ _ _ q => q) ⟨g, s, c, h4, rfl, rfl, rfl⟩ h2 h3⟩
theorem kn_close (i : ∀ g s c, P g s c → P' g s c) : ∀ σ H, Kn C (some (.box P) :: δ) σ H → Kn C (some (.box P') :: δ) σ H := fun σ H ⟨M, ok⟩ => by
  obtain ⟨b, h1, h2, h3, g, s, c, h4, h5⟩ := ok.box
  exact ⟨M, ok.boxed h1 (fun _ _ _ q => q) ⟨g, s, c, h4, i _ _ _ h5⟩ h2 h3⟩
theorem nb {x : Str} (hN : X.N[0]? = some x := by rfl) (hv : Vis X.env.scope x := by first | exact Or.inl rfl | exact Or.inr (Or.inl rfl) | exact Or.inr (Or.inr rfl))
    (hd : (x == ("__debug__" : Str)) = false := by decide) (hcd : (x == ("__classdict__" : Str)) = false := by decide) : EvS X C (some (.box (Ex g s c)) :: δ) (.Name x pos) [.int g, .int s, .int c] :=
  EvS.mk (pe_var hN hv hd hcd) fun M σ H Q ok q => by
    obtain ⟨b, h1, h2, h3, g', s', c', h4, rfl, rfl, rfl⟩ := ok.box
    exact ⟨.ref b, h1, fun sm => q b _ H sm (Same.refl H) ((sm _).1 _ h4) (.inl (SqL.of h4)) (.cons (.int _) (.cons (.int _) (.cons (.int _) .nil)))⟩
theorem hs_bset (n : Nat) {x : Str} {px py ps : Pos} {k} (he : Ev X C (some (.box (Ex g s c)) :: δ) e (.int v)) (hset : ([.int g, .int s, .int c] : List V).set n (.int v) = [.int g', .int s', .int c'] := by rfl) (hix : ixN 3 (n : Int) = some n := by decide) (hN : X.N[0]? = some x := by rfl) (hv : Vis X.env.scope x := by first | exact Or.inl rfl | exact Or.inr (Or.inl rfl) | exact Or.inr (Or.inr rfl))
    (hd : (x == ("__debug__" : Str)) = false := by decide) (hcd : (x == ("__classdict__" : Str)) = false := by decide)
    (ha : ∀ v, assign (.Subscript (.Name x px) (.Constant (.int (n : Int)) k py) ps) X.env v = (do
      let ov ← holding [v] (eval (.Name x px) X.env)
      let iv ← holding [v, ov] (eval (.Constant (.int (n : Int)) k py) X.env)
      standAt ps
      holding [v, ov, iv] (setItem ov iv v)
      release [v, ov, iv] []) := by intro _; rfl) (hs : swapsWithSole [.Subscript (.Name x px) (.Constant (.int (n : Int)) k py) ps] e pos.line X.env = pure false := by rfl) (hw : swappedStores [.Subscript (.Name x px) (.Constant (.int (n : Int)) k py) ps] e X.env = pure none := by rfl)
    (h1 : (assignEach [.Subscript (.Name x px) (.Constant (.int (n : Int)) k py) ps] X.env).map (·.2) = [assign (.Subscript (.Name x px) (.Constant (.int (n : Int)) k py) ps) X.env] := by rfl) :
    Hs X (Kn C (some (.box (Ex g s c)) :: δ)) (.Assign [.Subscript (.Name x px) (.Constant (.int (n : Int)) k py) ps] e pos) (Kn C (some (.box (Ex g' s' c')) :: δ)) Φ :=
  (ps_asg he (pg_sub (pe_var hN hv hd hcd) pe_int set_list ha) hs hw h1).imp fun D σ H ⟨⟨M, ok⟩, q, _⟩ => ⟨M, ok, fun u H1 sm t r => by
    cases r
    have ok1 := ok.mono t
    obtain ⟨b, b1, b2, b3, g0, s0, c0, b4, rfl, rfl, rfl⟩ := ok1.box
    refine ⟨.ref b, b1, b, _, n, n, rfl, rfl, b4, hix, q _ _ ⟨M, ok1.boxed b1 (fun a o ne h => by rw [upd_ne ne]; exact h) ⟨g', s', c', by rw [upd_same, hset], rfl, rfl, rfl⟩ b2 b3⟩⟩⟩
theorem ev_mod (ha : Ev X C δ a (.int i)) (hb : Ev X C δ b (.int j)) (hc : 0 < j) : Ev X C δ (.BinOp a .Mod b pos) (.int (i % j)) := ev_op op_mod ha hb (od_intC (P := fun _ j => 0 < j) hc fun _ => .int _)
theorem ev_fdiv (ha : Ev X C δ a (.int i)) (hb : Ev X C δ b (.int j)) (hc : CDiv i j) : Ev X C δ (.BinOp a .FloorDiv b pos) (.int (i / j)) := ev_op op_fdiv ha hb (od_intC (P := CDiv) hc fun _ => .int _)
end
section
variable {P : Program} {w : World} {K : PySem.W.Frag} {mg : Str → Option Value} {base : Heap}
def Dtake : List PyData → Prop := fun ds => ∃ s : Int, ds = [.int s] ∧ 0 < s ∧ s < 1073741824
def Stake : List PyData → PyData → Prop := fun ds r => ∃ s i : Int, ds = [.int s] ∧ r = .int i ∧ 0 ≤ i ∧ i < s
theorem sc54 : FnScope ["_law_box_here", "_law_size_so", "_law_drawn_so", "_law_once", "_law_far", "_law_again"] ["_law_box_here", "_law_size_so"] (defScope (topS 54)) := ⟨rfl, rfl, rfl, by decide +kernel, rfl, by decide +kernel, by decide +kernel⟩
theorem c_take (G : Mg mg) (F : Df K mg "_law_take" ["_law_box_here", "_law_size_so"] (topS 54)) : Cal P w K mg base 1 "_law_take" (spB 1 1 Dtake Stake) [] := by
  refine cal_ofB F sc54 rfl fun f cdv A outer s H E M b m hr ds hl hD => ?_
  obtain ⟨z, rfl, z0, z1⟩ := hD
  have gi := G.no "int" (by decide)
  refine ho_open fun g s c hb => ?_
  obtain ⟨b1, b2, b3, b4⟩ := hb
  refine ho_ifr (k := decide (0 < g)) (et_gt (ev_ixS (nb) ev_int rfl) ev_int) (fun _ => ?_) fun _ => ?_
  · refine ho_cons (hs_set (d := .int (g % z)) 2 sc54.nd (ev_mod (ev_int1 gi (ev_ixS nb ev_int rfl)) (nv 1) z0)) ?_
    refine ho_cons (hs_bset (g' := g / z) (s' := s) (c' := c) (v := g / z) 0 (ev_fdiv (ev_ixS nb ev_int rfl) (nv 1) ⟨z0, z1⟩)) ?_
    refine ho_pre (ho_one (hsb_ret (k := m) (B0 := b) (EvB.imp (evb (d := .int (g % z)) (nv 2)) fun r e => ?_) rfl)) (kn_close fun g' s' c' h => ?_)
    · exact ⟨z, g % z, rfl, e, Int.emod_nonneg _ (by omega), Int.emod_lt_of_pos _ z0⟩
    · obtain ⟨rfl, rfl, rfl⟩ := h
      exact ⟨b1, b2, b3, by omega⟩
  · refine ho_cons (hs_bset (g' := g) (s' := s) (c' := c + 1) (v := c + 1) 2 (ev_add (ev_ixS nb ev_int rfl) ev_int)) ?_
    have hc : c + 1 ≤ 1000000 := by omega
    refine ho_cons (hs_set (d := .int (((s + 48271 * (c + 1)) * (39373 + (c + 1))) % 2147483647)) 3 sc54.nd (ev_mod (ev_int1 gi (ev_mul (ev_add (ev_ixS nb ev_int rfl) (ev_mul ev_int (ev_ixS nb ev_int rfl) (.inl (by decide)))) (ev_add ev_int (ev_ixS nb ev_int rfl)) (.inr ⟨by omega, by omega⟩))) ev_int (by decide))) ?_
    generalize ho : ((s + 48271 * (c + 1)) * (39373 + (c + 1))) % 2147483647 = once
    refine ho_cons (hs_set (d := .int (once % 40009 + 7)) 4 sc54.nd (ev_add (ev_mod (ev_int1 gi (nv 3)) ev_int (by decide)) ev_int)) ?_
    have f1 : 0 ≤ once % 40009 + 7 := by have : 0 ≤ once % 40009 := Int.emod_nonneg _ (by decide); omega
    have f2 : once % 40009 + 7 < 50000 := by have : once % 40009 < 40009 := Int.emod_lt_of_pos _ (by decide); omega
    generalize once % 40009 + 7 = far at f1 f2 ⊢
    refine ho_cons (hs_set (d := .int (((once + (c + 1) + s / 1000003) * far) % 2147483629)) 5 sc54.nd (ev_mod (ev_int1 gi (ev_mul (ev_add (ev_add (nv 3) (ev_ixS nb ev_int rfl)) (ev_fdiv (ev_ixS nb ev_int rfl) ev_int ⟨by decide, by decide⟩)) (nv 4) (.inr ⟨by omega, by omega⟩))) ev_int (by decide))) ?_
    generalize ((once + (c + 1) + s / 1000003) * far) % 2147483629 = again
    refine ho_pre (ho_one (hsb_ret (k := m) (B0 := b) (EvB.imp (evb (d := .int ((((again * 48271 + once) % 2147483587) / 64) % z)) (ev_mod (ev_int1 gi (ev_fdiv (ev_mod (ev_int1 gi (ev_add (ev_mul (nv 5) ev_int (.inr (by decide))) (nv 3))) ev_int (by decide)) ev_int ⟨by decide, by decide⟩)) (nv 1) z0)) fun r e => ?_) rfl)) (kn_close fun g' s' c' h => ?_)
    · exact ⟨z, _, rfl, e, Int.emod_nonneg _ (by omega), Int.emod_lt_of_pos _ z0⟩
    · obtain ⟨rfl, rfl, rfl⟩ := h
      exact ⟨b1, b2, by omega, by omega⟩
end
end Kl
/-! W14: of, pick. -/
namespace Kl
open PySem PySem.Spec PyProof.Rows L2 PySem.W
open C8 (Cal pe_c)
section
variable {X : Cx} {C : Cfg} {δ : Dl} {k k1 k2 : Nat} {a b e tg : Expr} {es : List Expr} {P P1 P2 : PyData → Prop} {pos p : Pos} {ds : List PyData}
theorem evb_ix (ha : EvB X C k k1 δ a P1) (hb : EvB X C k1 k2 δ b P2) (hr : ∀ d1 d2, P1 d1 → P2 d2 → ∃ (kk : Bool) (ds : List PyData) (i : Int) (d : PyData), d1 = sqD kk ds ∧ d2 = .int i ∧ atI ds i = some d ∧ P d) (hs : PlainIx b := by intro _ _; rfl) : EvB X C k k2 δ (.Subscript a b pos) P :=
  EvB.mk (pe_ix ix_seq ha hb hs) fun M σ H Q ok q => ⟨M, ok, fun x H1 d1 sm ok1 s p1 r1 => ⟨M, ok1, fun y H2 d2 sm2 ok2 s2 p2 r2 => by
    obtain ⟨kk, ds, i, d, rfl, rfl, hi, pd⟩ := hr d1 d2 p1 p2
    cases r2
    have r1 := r1.mono s2.1
    cases kk with
    | false =>
      cases r1 with
      | @lst l vs _ h r =>
        obtain ⟨v, hv, rv⟩ := r.at hi
        exact .inl ⟨l, vs, i, v, rfl, rfl, SqL.of (hid_le _ _ h), hv, fun sm3 => q v H2 d sm3 ok2 (s.trans s2) pd rv⟩
    | true =>
      cases r1 with
      | @tup l vs _ h r =>
        obtain ⟨v, hv, rv⟩ := r.at hi
        exact .inr (.inl ⟨l, vs, i, v, rfl, rfl, SqT.of (hid_le _ _ h), hv, fun sm3 => q v H2 d sm3 ok2 (s.trans s2) pd rv⟩)⟩⟩
theorem perm_out {α : Type} : ∀ (l : List α) (n : Nat) (d : α), l[n]? = some d → ([d] ++ l.eraseIdx n).Perm l
  | [], _, _, h => by simp at h
  | x :: r, 0, d, h => by
    have e : x = d := by simpa using h
    rw [e]
    exact List.Perm.refl _
  | x :: r, n + 1, d, h => (List.Perm.swap x d _).trans ((perm_out r n d (by simpa using h)).cons x)
theorem atI_lt {ds : List PyData} {i : Int} (h0 : 0 ≤ i) (h1 : i < ds.length) : ∃ d, atI ds i = some d ∧ d ∈ ds := by
  have hn : i.toNat < ds.length := by omega
  refine ⟨ds[i.toNat], ?_, List.getElem_mem hn⟩
  unfold atI ixN
  rw [if_pos h0, if_pos h1]
  exact List.getElem?_eq_getElem hn
/-- range(n) -/
theorem yld_rng {st : Bool} {M : List Addr} {H : Hp} {n : Nat} (hz : n ≤ sizeLine) : Yld st M (Itr 0 n) ((List.range n).map fun i => .int (i : Nat)) H := by
  refine ⟨by rw [List.length_map, List.length_range]; exact hz, [], fun p hp => by simp at hp, fun M' i H' _ _ t => ⟨fun d hd => ?_, fun e => ?_⟩⟩
  · rw [List.getElem?_map] at hd
    obtain ⟨j, hj, rfl⟩ := Option.map_eq_some_iff.mp hd
    obtain ⟨jl, e⟩ := List.getElem?_eq_some_iff.mp hj
    rw [List.getElem_range] at e
    subst e
    rw [List.length_range] at jl
    refine ⟨jl, fun x H2 hx => ?_⟩
    obtain ⟨rfl, rfl⟩ := hx
    exact ⟨Same.refl _, by rw [Int.zero_add]; exact .int _⟩
  · rw [List.length_map, List.length_range] at e
    exact Nat.le_of_eq e.symm
theorem ei_range {st : Bool} {n : Nat} (hm : X.mg "range" = none) (ha : Ev X C δ a (.int (n : Int))) (hz : n ≤ sizeLine) (hg : Gl X "range" := by rfl) (h1 : starEach [a] X.env = (false, eval a X.env) :: starEach [] X.env := by rfl) (h2 : starEach [a] X.env = [(false, eval a X.env)] := by rfl) :
    EvI st X C δ tg (.Call (.Name "range" p) [a] [] pos) ((List.range n).map fun i => .int (i : Nat)) :=
  (PI.small (pi_range1 hg hm (pa_cons ha pa_nil h1) h2)).imp fun σ H R ⟨M, ok, q⟩ => ⟨M, ok, fun v H1 sm s r => by
    cases r
    have := sizeLine_eq
    exact ⟨n, rfl, by omega, by omega, fun sm2 => q _ H1 sm2 s (yld_rng hz)⟩⟩
end
section
variable {X : Cx} {C : Cfg} {δ : Dl} {k k1 : Nat} {e : Expr} {fs ps : List PyData} {pos p q : Pos} {Φ : VK}
/-- xs.append(ys.pop(e)) -/
theorem hs_draw (i j : Nat) {x y : Str} {xp yp ap aq : Pos} (he : EvB X C k k1 δ e (fun r => ∃ n : Nat, r = .int n ∧ n < ps.length)) (hij : i ≠ j := by decide) (hz : fs.length < sizeLine) (hz2 : ps.length ≤ sizeLine) (hi : (bx k δ)[i]? = some (some (.own fs)) := by rfl) (hj : (bx k δ)[j]? = some (some (.own ps)) := by rfl) (hj1 : (bx k1 δ)[j]? = some (some (.own ps)) := by rfl) (hi2 : ∀ qs, ((bx k1 δ).set j (some (.own qs)))[i]? = some (some (.own fs)) := by intro _; rfl)
    (hN : X.N[i]? = some x := by rfl) (hM : X.N[j]? = some y := by rfl) (hv : Vis X.env.scope x := by first | exact Or.inl rfl | exact Or.inr (Or.inl rfl)) (hu : Vis X.env.scope y := by first | exact Or.inl rfl | exact Or.inr (Or.inl rfl))
    (hd : (x == ("__debug__" : Str)) = false := by decide) (hcd : (x == ("__classdict__" : Str)) = false := by decide) (hd2 : (y == ("__debug__" : Str)) = false := by decide) (hcd2 : (y == ("__classdict__" : Str)) = false := by decide)
    (b1 : attributeBase (.Name x xp) "append" X.env (eval (.Name x xp) X.env) = eval (.Name x xp) X.env := by rfl) (b2 : attributeBase (.Name y yp) "pop" X.env (eval (.Name y yp) X.env) = eval (.Name y yp) X.env := by rfl)
    (f1 : ((backTo p (starEach [Expr.Call (.Attribute (.Name y yp) "pop" aq) [e] [] q] X.env)).all (fun x => !x.1) && (backToKw p (keywordEach [] X.env)).all (fun x => x.1.isSome)
      && decide (([Expr.Call (.Attribute (.Name y yp) "pop" aq) [e] [] q] : List Expr).length + ([] : List Keyword).length + (if ([] : List Keyword).isEmpty then 0 else 1) < 30)) = true := by rfl)
    (f2 : ((backTo q (starEach [e] X.env)).all (fun x => !x.1) && (backToKw q (keywordEach [] X.env)).all (fun x => x.1.isSome) && decide (([e] : List Expr).length + ([] : List Keyword).length + (if ([] : List Keyword).isEmpty then 0 else 1) < 30)) = true := by rfl)
    (l1 : (ap.endLine == p.line) = true := by rfl) (l2 : (aq.endLine == q.line) = true := by rfl)
    (s1 : starEach [Expr.Call (.Attribute (.Name y yp) "pop" aq) [e] [] q] X.env = (false, eval (Expr.Call (.Attribute (.Name y yp) "pop" aq) [e] [] q) X.env) :: starEach [] X.env := by rfl) (s2 : starEach [e] X.env = (false, eval e X.env) :: starEach [] X.env := by rfl)
    (p1 : (backTo p (starEach [] X.env)).any (·.1) = false := by rfl) (p2 : (backTo q (starEach [] X.env)).any (·.1) = false := by rfl)
    (hs : swapsWith (.Call (.Attribute (.Name x xp) "append" ap) [Expr.Call (.Attribute (.Name y yp) "pop" aq) [e] [] q] [] p) none pos.line X.env = pure false := by rfl) :
    Hs X (Kn C (bx k δ)) (.Expr (.Call (.Attribute (.Name x xp) "append" ap) [Expr.Call (.Attribute (.Name y yp) "pop" aq) [e] [] q] [] p) pos) (fun σ H => ∃ n d, ps[n]? = some d ∧ Kn C (((bx k1 δ).set j (some (.own (ps.eraseIdx n)))).set i (some (.own (fs ++ [d])))) σ H) Φ := by
  have hm := pe_bm PySem.F.plainAttrs_list PySem.F.slot_list_append PySem.F.type_list_append mt_append (pe_var hN hv hd hcd) (pa_cons (pe_bm PySem.F.plainAttrs_list PySem.F.slot_list_pop PySem.F.type_list_pop mt_popAt (pe_var hM hu hd2 hcd2) (pa_cons he pa_nil s2) b2 f2 l2 s2 p2) pa_nil s1) b1 f1 l1 s1 p1
  refine (ps_expr hm hs).imp fun D σ H ⟨⟨M, ok⟩, nx, _⟩ => ?_
  obtain ⟨v, h1, l, xs, e1, e2, e3, e4, e5⟩ := ok.val i _ hi
  subst e1
  obtain ⟨u, g1, m, ys, z1, z2, z3, z4, z5⟩ := ok.val j _ hj
  subst z1
  refine ⟨.ref l, h1, .inl ⟨rfl, _, .inl (.inl e4)⟩, .ref m, g1, .inl ⟨rfl, _, .inl (.inl z4)⟩, M, ok, fun v1 H1 r sm ok1 s pr rv => ?_⟩
  obtain ⟨n, rfl, hn⟩ := pr
  cases rv
  obtain ⟨u', g1', m', ys', z1, y2, y3, y4, y5⟩ := ok1.val j _ hj1
  rw [g1] at g1'
  cases g1'
  cases z1
  have hd := List.getElem?_eq_getElem hn
  generalize ps[n] = d at hd
  obtain ⟨y, hy, ry⟩ := y5.get hd
  have hl : n < ys'.length := by rw [y5.length]; exact hn
  have sz := sizeLine_eq
  have sl : seqIndex? (n : Int) ys'.length = some n := by
    have z : seqIndex? (n : Int) ys'.length = some (n : Int).toNat := seqIndex_of (by omega) (by omega)
    rwa [Int.toNat_natCast] at z
  refine ⟨m, ys', n, n, y, rfl, rfl, y4, by omega, by have := y5.length; omega, sl, hy, ?_⟩
  have ok2 := ok1.write hj1 g1 y2 y3 (y5.eraseIdx n)
  obtain ⟨v2, h2, l2', xs2, x1, x2, x3, x4, x5⟩ := ok2.val i _ (hi2 _)
  rw [h1] at h2
  cases h2
  cases x1
  refine ⟨l, xs2, y, rfl, rfl, x4, by rw [x5.length]; exact hz, nx _ _ ⟨n, d, hd, M, ok2.write (hi2 _) h1 x2 x3 (x5.append (.cons ?_ .nil))⟩⟩
  rw [hid_in y2]
  exact ry
end
section
variable {P : Program} {w : World} {K : PySem.W.Frag} {mg : Str → Option Value} {base : Heap}
def Dof : List PyData → Prop := fun ds => ∃ gs : List PyData, ds = [.list gs] ∧ gs ≠ [] ∧ gs.length ≤ 1000
def Sof : List PyData → PyData → Prop := fun ds r => ∃ gs : List PyData, ds = [.list gs] ∧ r ∈ gs
theorem sc56 : FnScope ["_law_box_here", "_law_goods_so"] ["_law_box_here", "_law_goods_so"] (defScope (topS 56)) := ⟨rfl, rfl, rfl, by decide +kernel, rfl, by decide +kernel, by decide +kernel⟩
theorem c_of (G : Mg mg) (F : Df K mg "_law_of" ["_law_box_here", "_law_goods_so"] (topS 56)) (C1 : Cal P w K mg base 1 "_law_take" (spB 1 1 Dtake Stake) []) : Cal P w K mg base 2 "_law_of" (spB 1 1 Dof Sof) [] := by
  refine cal_ofB F sc56 rfl fun f cdv A outer s H E M b m hr ds hl hD => ?_
  obtain ⟨gs, rfl, ne, few⟩ := hD
  have pos : 0 < gs.length := List.length_pos_iff.mpr ne
  refine ho_one (hsb_ret (B0 := b) (evb_ix (evb (d := .list gs) (nv 1)) (evb_call C1 hr (eab_cons (evb (ev_len (G.no "len" (by decide)) (nv 1).seqL)) eab_nil) (fun ds h => ?_)) (fun d1 d2 h1 h2 => ?_)) rfl)
  · obtain ⟨r, rs, rfl, rfl, rfl⟩ := h
    exact ⟨rfl, _, rfl, by omega, by omega⟩
  · obtain ⟨ds, ⟨r, rs, rfl, rfl, rfl⟩, z, i, e, rfl, h3, h4⟩ := h2
    have e : z = (gs.length : Int) := by
      have := List.cons.inj e
      injection this.1 with h
      exact h.symm
    subst e
    obtain ⟨d, hd, hm⟩ := atI_lt h3 h4
    exact ⟨false, gs, i, d, h1, rfl, hd, gs, rfl, hm⟩
/-- some of the goods, each place once -/
def Dpick : List PyData → Prop := fun ds => ∃ (gs : List PyData) (c : Nat), ds = [.list gs, .int c] ∧ gs.length ≤ 9
def Spick : List PyData → PyData → Prop := fun ds r => ∃ (gs : List PyData) (c : Nat) (l rest : List PyData), ds = [.list gs, .int c] ∧ r = .list l ∧ (l ++ rest).Perm gs ∧ l.length = min c gs.length
theorem sc57 : FnScope ["_law_box_here", "_law_goods_so", "_law_count_so", "_law_pool_so", "_law_found", "_law_lap"] ["_law_box_here", "_law_goods_so", "_law_count_so"] (defScope (topS 57)) := ⟨rfl, rfl, rfl, by decide +kernel, rfl, by decide +kernel, by decide +kernel⟩
theorem c_pick (G : Mg mg) (F : Df K mg "_law_pick" ["_law_box_here", "_law_goods_so", "_law_count_so"] (topS 57)) (C1 : Cal P w K mg base 1 "_law_take" (spB 1 1 Dtake Stake) []) : Cal P w K mg base 2 "_law_pick" (spB 2 9 Dpick Spick) [] := by
  refine cal_ofB F sc57 rfl fun f cdv A outer s H E M b m hr ds hl hD => ?_
  obtain ⟨gs, c, rfl, few⟩ := hD
  have sz := sizeLine_eq
  have hmin : (if ((gs.length : Nat) : Int) < (c : Int) then ((gs.length : Nat) : Int) else (c : Int)) = ((min c gs.length : Nat) : Int) := by split <;> omega
  refine ho_cons (hs_par 3 4 (e1 := .own gs) (e2 := .own []) sc57.nd (ee_o (ef_list (G.no "list" (by decide)) (nv 1).seqL)) (ee_o ef_nil)) ?_
  refine ho_cons (hs_for (xs := List.range (min c gs.length)) (en := fun i => .int (i : Nat)) (is := [5]) (δx := fun t (g : List PyData × List PyData) (i : Nat) => bx (m + 9 - t) [some (.dat (.list gs)), some (.dat (.int c)), some (.own g.2), some (.own g.1), some (.dat (.int i))])
    (fun t (g : List PyData × List PyData) => bx (m + 9 - t) [some (.dat (.list gs)), some (.dat (.int c)), some (.own g.2), some (.own g.1), none]) (fun t g => (g.1 ++ g.2).Perm gs ∧ g.1.length = t) ([], gs) rfl PassesOwn.never ⟨List.Perm.refl _, rfl⟩ (Les.refl _)
    (ei_range (G.no "range" (by decide)) (Ev.cast (ev_min2 (i := c) (j := (gs.length : Nat)) (G.no "min" (by decide)) rfl (ev_int1 (G.no "int" (by decide)) (nv 2)) (ev_len (G.no "len" (by decide)) (no 3))) (by rw [hmin])) (by omega)) (fun ps k g x hx _ => gn 5 sc57.nd) (fun ps t g x hx pg => ?_)) ?_
  · obtain ⟨pg, pl⟩ := pg
    have ht : t < min c gs.length := by have := (List.getElem?_eq_some_iff.mp hx).1; rwa [List.length_range] at this
    have lp := pg.length_eq
    rw [List.length_append] at lp
    have e9 : m + 9 - t = (m + 9 - (t + 1)) + 1 := by omega
    rw [e9]
    refine ho_post (ho_one (hs_draw (fs := g.1) (ps := g.2) 4 3 (EvB.imp (evb_call (k1 := m + 9 - (t + 1)) C1 hr (eab_cons (evb (ev_len (G.no "len" (by decide)) (no 3))) eab_nil) (fun ds h => ?_)) fun r h => ?_) (by decide) (by omega) (by omega))) fun σ' H' h => ?_
    · obtain ⟨r, rs, rfl, rfl, rfl⟩ := h
      exact ⟨rfl, _, rfl, by omega, by omega⟩
    · obtain ⟨ds, ⟨r', rs, rfl, rfl, rfl⟩, z, i, e, rfl, h3, h4⟩ := h
      have e : z = (g.2.length : Int) := by
        have := List.cons.inj e
        injection this.1 with h
        exact h.symm
      exact ⟨i.toNat, by congr 1; omega, by omega⟩
    · obtain ⟨n, d, hd, hk⟩ := h
      refine ⟨(g.1 ++ [d], g.2.eraseIdx n), ⟨?_, by rw [List.length_append, pl]; rfl⟩, ?_⟩
      · refine List.Perm.trans ?_ pg
        show ((g.1 ++ [d]) ++ g.2.eraseIdx n).Perm (g.1 ++ g.2)
        rw [List.append_assoc]
        refine List.Perm.append_left g.1 ?_
        exact perm_out g.2 n d hd
      · exact Kn.les (.keep (.keep (.keep (.keep (.keep (.skip .nil)))))) _ _ hk
  · refine ho_ex fun g => ho_and fun pg => ?_
    rw [List.length_range] at pg ⊢
    refine ho_freeze 4 rfl ?_
    refine ho_one (hsb_ret (B0 := b) (k1 := m) (EvB.imp (EvB.le (evb (d := .list g.1) (nv 4)) (by omega)) fun r e => ?_) rfl)
    exact ⟨gs, c, g.1, g.2, rfl, e, pg.1, pg.2⟩
end
end Kl
/-! W15: have, want, go. -/
namespace Kl
open PySem PySem.Spec PyProof.Rows L2 PySem.W
open C8 (Cal pe_c)
def eLi (l : List Int) : PyData := .list (l.map .int)
section
variable {P : Program} {w : World} {K : PySem.W.Frag} {mg : Str → Option Value} {base : Heap}
theorem sc60 : FnScope ["_law_web_here", "_law_kit", "_law_some_so", "_law_much", "_law_own"] ["_law_web_here", "_law_kit", "_law_some_so"] (defScope (topS 60)) := ⟨rfl, rfl, rfl, by decide +kernel, rfl, by decide +kernel, by decide +kernel⟩
abbrev goodL (keys far : List Str) (l : Ln) : Bool := decide (l.2.2.2.2 ∈ keys) && (decide (l.2.2.1 ∈ far) && !decide (l.2.1 ∈ far))
theorem c_have (G : Mg mg) (F : Df K mg "_law_have" ["_law_web_here", "_law_kit", "_law_some_so"] (topS 60)) : Cal P w K mg base 1 "_law_have" (spR 3 SvalOf) [] := by
  refine cal_of F sc60 rfl fun f cdv A outer s H E M hr ds r hS => ?_
  obtain ⟨n, keys, far, rfl, rfl⟩ := hS
  refine ho_no (ho_cons (hs_set (d := .int ((n.ys.filter fun y => decide (y.1 ∈ far)).map fun y => y.2).sum) 3 sc60.nd (ev_sum (ns := (n.ys.filter fun y => decide (y.1 ∈ far)).map fun y => y.2) (G.no "sum" (by decide)) rfl ?_)) ?_)
  · refine Ev.cast (ef_1t (xs := n.ys) (en := eY) (pr := fun y => decide (y.1 ∈ far)) (f := fun y => .int y.2) 4 sc60.nd (ei_T (ev_ixT (nv 0) ev_int)) (fun _ _ _ _ _ x _ => ?_) (fun _ _ _ _ _ x _ _ => ?_)).ev ?_
    · exact et_in (ev_ixT (nv 4) ev_int) (nv 2).seqT
    · exact ev_ixT (nv 4) ev_int
    · rw [List.map_map]
      rfl
  generalize hs0 : ((n.ys.filter fun y => decide (y.1 ∈ far)).map fun y => y.2).sum = s0
  refine ho_cons (hs_for (xs := n.ls) (en := eL) (is := [4]) (δx := fun k (_ : Unit) l => [some (.dat (eN n)), some (.dat (eK keys)), some (.dat (eK far)), some (.dat (.int (s0 + (((n.ls.take k).filter (goodL keys far)).map fun l => l.2.2.2.1).sum))), some (.dat (eL l))])
    (fun k (_ : Unit) => [some (.dat (eN n)), some (.dat (eK keys)), some (.dat (eK far)), some (.dat (.int (s0 + (((n.ls.take k).filter (goodL keys far)).map fun l => l.2.2.2.1).sum))), none]) (fun _ _ => True) () rfl PassesOwn.never trivial ?_ (ei_T (ev_ixT (nv 0) ev_int)) (fun ps k g x hx _ => gn 4 sc60.nd) (fun ps k _ l hx _ => ?_)) ?_
  · simp only [List.take_zero, List.filter_nil, List.map_nil, List.sum_nil, Int.add_zero]
    exact Les.refl _
  · refine ho_one (hs_if (k := goodL keys far l) (EvW.t (ew_and (et_in (ev_ixT (nv 4) ev_int) (nv 1).seqT) fun _ => ew_and (et_in (ev_ixT (nv 4) ev_int) (nv 2).seqT) fun _ => ew_and1 (et_nin (ev_ixT (nv 4) ev_int) (nv 2).seqT))) (fun e => ?_) fun e => ?_)
    · refine ho_post (ho_one (hs_set 3 sc60.nd (ev_add (nv 3) (ev_ixT (nv 4) ev_int)))) fun σ' H' h => ⟨(), trivial, ?_⟩
      rw [filter_next hx, if_pos e, List.map_append, List.sum_append, ← Int.add_assoc]
      simp only [List.map_cons, List.map_nil, List.sum_cons, List.sum_nil, Int.add_zero]
      exact Kn.les (.keep (.keep (.keep (.keep (.skip .nil))))) _ _ h
    · refine ho_nil fun σ' H' h => ⟨(), trivial, ?_⟩
      rw [filter_next hx, if_neg (by rw [e]; simp), List.append_nil]
      exact Kn.les (.keep (.keep (.keep (.keep (.skip .nil))))) _ _ h
  · refine ho_ex fun _ => ho_and fun _ => ?_
    rw [List.take_length, ← hs0]
    exact ho_one (hs_ret (nv 3))
def Swant : List PyData → PyData → Prop := fun ds r => ∃ n lot far, ds = [eN n, eLi lot, eK far] ∧ r = .int (partIn n lot far)
theorem sc61 : FnScope ["_law_web_here", "_law_bits_so", "_law_some_so", "_law_own", "_law_bit"] ["_law_web_here", "_law_bits_so", "_law_some_so"] (defScope (topS 61)) := ⟨rfl, rfl, rfl, by decide +kernel, rfl, by decide +kernel, by decide +kernel⟩
theorem c_want (G : Mg mg) (F : Df K mg "_law_want" ["_law_web_here", "_law_bits_so", "_law_some_so"] (topS 61)) : Cal P w K mg base 1 "_law_want" (spR 3 Swant) [] := by
  refine cal_of F sc61 rfl fun f cdv A outer s H E M hr ds r hS => ?_
  obtain ⟨n, lot, far, rfl, rfl⟩ := hS
  refine ho_no (ho_one (hs_ret (ev_sum (ns := ((n.cs.zip lot).filter fun p => decide (p.1.2 ∈ far)).map fun p => p.2) (G.no "sum" (by decide)) rfl ?_)))
  refine Ev.cast (ef_2t (xs := n.cs.zip lot) (e1 := fun p => eC p.1) (e2 := fun p => .int p.2) (pr := fun p => decide (p.1.2 ∈ far)) (f := fun p => .int p.2) 3 4 sc61.nd ?_ (fun _ _ _ _ _ x _ => ?_) (fun _ _ _ _ _ x _ _ => ?_)).ev ?_
  · rw [← zip_maps]
    exact ei_zip true false (G.no "zip" (by decide)) (ev_ixT (nv 0) ev_int) (nv 1)
  · exact et_in (ev_ixT (nv 3) ev_int) (nv 2).seqT
  · exact nv 4
  · show PyData.list _ = PyData.list _
    rw [List.map_map]
    rfl
def SlGo : List PyData → PyData → Prop := fun ds r => ∃ n keys lot, ds = [eN n, eK keys, eLi lot] ∧ (yards n).length ≤ 8 ∧ r = .bool (goesB n keys lot)
theorem sc62 : FnScope ["_law_web_here", "_law_kit", "_law_bits_so", "_law_some_so", "_law_own"] ["_law_web_here", "_law_kit", "_law_bits_so"] (defScope (topS 62)) := ⟨rfl, rfl, rfl, by decide +kernel, rfl, by decide +kernel, by decide +kernel⟩
theorem c_lgo (G : Mg mg) (F : Df K mg "_law_go" ["_law_web_here", "_law_kit", "_law_bits_so"] (topS 62)) (C1 : Cal P w K mg base 1 "_law_sets" (spR 1 Ssubs) []) (C2 : Cal P w K mg base 1 "_law_have" (spR 3 SvalOf) []) (C3 : Cal P w K mg base 1 "_law_want" (spR 3 Swant) []) : Cal P w K mg base 2 "_law_go" (spR 3 SlGo) [] := by
  refine cal_of F sc62 rfl fun f cdv A outer s H E M hr ds r hS => ?_
  obtain ⟨n, keys, lot, rfl, few, rfl⟩ := hS
  refine ho_no (ho_cons (hs_for (xs := subs (yards n)) (en := eK) (is := [3]) (δx := fun _ (_ : Unit) g => [some (.dat (eN n)), some (.dat (eK keys)), some (.dat (eLi lot)), some (.dat (eK g)), none])
    (fun _ (_ : Unit) => [some (.dat (eN n)), some (.dat (eK keys)), some (.dat (eLi lot)), none, none]) (fun k _ => ∀ g ∈ (subs (yards n)).take k, decide (partIn n lot g ≤ valOf n keys g) = true) () rfl PassesOwn.never (fun g h => by simp at h) (Les.refl _)
    (ei_L (ds := (subs (yards n)).map eK) (ev_call C1 hr (ea_cons (d := .list ((yards n).map .str)) ?_ ea_nil) ⟨false, yards n, rfl, few, rfl⟩)) (fun ps k g x hx _ => gn 3 sc62.nd) (fun ps k _ g hx hk => ?_)) ?_)
  · refine Ev.cast (ef_1 (xs := n.ys) (en := eY) (f := fun y => .str y.1) 4 sc62.nd (ei_T (ev_ixT (nv 0) ev_int)) (fun _ _ _ _ _ x _ => ?_)).ev ?_
    · exact ev_ixT (nv 4) ev_int
    · unfold yards
      rw [List.map_map]
      rfl
  · have hg := List.mem_of_getElem? hx
    refine ho_one (hs_if (k := decide (valOf n keys g < partIn n lot g)) (et_gt (ev_call C3 hr (ea_cons (nv 0) (ea_cons (nv 2) (ea_cons (nv 3) ea_nil))) ⟨n, lot, g, rfl, rfl⟩) (ev_call C2 hr (ea_cons (nv 0) (ea_cons (nv 1) (ea_cons (nv 3) ea_nil))) ⟨n, keys, g, rfl, rfl⟩)) (fun e => ?_) fun e => ?_)
    · have er : goesB n keys lot = false := by
        unfold goesB
        rw [List.all_eq_false]
        exact ⟨g, hg, by have := of_decide_eq_true e; simp; omega⟩
      rw [er]
      exact ho_no (ho_one (hs_ret ev_bl))
    · exact ho_nil fun σ' H' h => ⟨(), take_snoc hx hk (decide_eq_true (by have := of_decide_eq_false e; omega)), Kn.les (.keep (.keep (.keep (.skip (.skip .nil))))) _ _ h⟩
  · refine ho_ex fun _ => ho_and fun h => ?_
    rw [List.take_length] at h
    have er : goesB n keys lot = true := List.all_eq_true.mpr h
    rw [er]
    exact ho_one (hs_ret ev_bl)
end
end Kl
/-! W16: statements that draw; what is drawn, by types. -/
namespace Kl
open PySem PySem.Spec PyProof.Rows L2 PySem.W
open C8 (Cal pe_c)
def tIB {α : Type} (C : Cfg) (k k1 : Nat) (δ : Dl) (en : α → PyData) (PS : List α → Prop) : TI := fun σ H R => ∃ M, OkM C M (bx k δ) σ H ∧ ∀ J H' xs, Small H' → OkM C M (bx k1 δ) σ H' → PS xs → Yld false M J (xs.map en) H' → R J H'
abbrev EiB {α : Type} (X : Cx) (C : Cfg) (k k1 : Nat) (δ : Dl) (tg e : Expr) (en : α → PyData) (PS : List α → Prop) : Prop := PI X tg e (tIB C k k1 δ en PS)
section
variable {α : Type} {X : Cx} {C : Cfg} {δ : Dl} {k k1 k2 : Nat} {a b c e tg : Expr} {es : List Expr} {ds : List PyData} {P P1 P2 : PyData → Prop} {PS : List α → Prop} {en : α → PyData} {pos p : Pos} {Φ : VK}
theorem hsb_set (i : Nat) {x : Str} {pos' : Pos} (hN : X.N.Nodup) (he : EvB X C k k1 δ e P) (hi : X.N[i]? = some x := by rfl) (hx : Loc X.env.scope x := by first | exact Or.inl rfl | exact Or.inr rfl)
    (hs : swapsWith e (some (.Name x pos')) pos.line X.env = pure false := by rfl) (hf : X.fn x = true ∨ X.env.scope.names.lookup x = some .local := by first | exact .inl rfl | exact .inr rfl | assumption) :
    Hs X (Kn C (bx k δ)) (.Assign [.Name x pos'] e pos) (fun σ H => ∃ r, P r ∧ Kn C ((bx k1 δ).set i (some (.dat r))) σ H) Φ :=
  (ps_set hN hi hx he hs hf).imp fun D σ H ⟨⟨M, ok⟩, q, _⟩ => ⟨M, ok, fun v H' r sm ok' s p rv => q _ _ ⟨r, p, M, ok'.put (e := .dat r) rfl rv⟩⟩
theorem hsb_par (i j : Nat) {x y : Str} {px py pt : Pos} {kt k2' pt2} (nd : X.N.Nodup) (ha : EvB X C k k1 δ a P) (hb : EvF X C (bx k1 δ) b ds) (hij : i ≠ j := by decide) (hi : X.N[i]? = some x := by rfl) (hj : X.N[j]? = some y := by rfl) (hc : X.calm = true := by rfl)
    (hx : X.env.scope.names.lookup x = some .local := by rfl) (hy : X.env.scope.names.lookup y = some .local := by rfl) (hw : swappedStores [.Tuple [.Name x px, .Name y py] kt pt] (.Tuple [a, b] k2' pt2) X.env = pure (some [x, y]) := by rfl)
    (hs : swapsWithSole [.Tuple [.Name x px, .Name y py] kt pt] (.Tuple [a, b] k2' pt2) pos.line X.env = pure false := by rfl) (h1 : starEach [a, b] X.env = (false, eval a X.env) :: starEach [b] X.env := by rfl) (h2 : starEach [b] X.env = (false, eval b X.env) :: starEach [] X.env := by rfl) :
    Hs X (Kn C (bx k δ)) (.Assign [.Tuple [.Name x px, .Name y py] kt pt] (.Tuple [a, b] k2' pt2) pos) (fun σ H => ∃ r, P r ∧ Kn C (((bx k1 δ).set i (some (.dat r))).set j (some (.own ds))) σ H) Φ :=
  (ps_par hc nd hi hj hij hx hy (PA.small (pa_cons ha (pa_cons hb pa_nil h2) h1)) hw hs).imp fun D σ H ⟨⟨M, ok⟩, q, _⟩ => ⟨M, ok, fun v H1 r sm ok1 s p rv => ⟨M, ok1, fun l xs H2 sm2 s2 nl hl rl sm3 => by
    refine ⟨v, .ref l, rfl, q _ _ ⟨r, p, l :: M, ?_⟩⟩
    have ok2 : OkM C M ((bx k1 δ).set i (some (.dat r))) (σ.set i (some v)) H1 := ok1.put (e := .dat r) rfl rv
    exact ok2.putF s2 nl hl rl⟩⟩
/-- lists that were drawn, walked -/
theorem eib_L (h : EvB X C k k1 δ e (fun r => ∃ xs : List α, r = .list (xs.map en) ∧ PS xs)) : EiB X C k k1 δ tg e en PS :=
  (PI.small (pi_seq h)).imp fun σ H R ⟨M, ok, q⟩ => ⟨M, ok, fun v H1 r sm ok1 s p r => by
    obtain ⟨xs, rfl, p⟩ := p
    have r0 := r
    cases r with
    | @lst a vs _ h r =>
      have h' := hid_le _ _ h
      exact ⟨a, rfl, .inl ⟨vs, SqL.of h', fun _ => q _ H1 xs sm ok1 p (yld_L (by rw [← r.length]; exact (sm _).1 _ h') r0)⟩⟩⟩
abbrev enumL (xs : List α) : List (Nat × α) := xs.zipIdx.map fun p => (p.2, p.1)
theorem enum_eq (xs : List α) : (enumL xs).map (fun p => PyData.tuple [.int (p.1 : Nat), en p.2]) = (List.range (xs.map en).length).map fun i => .tuple [.int (i : Nat), (xs.map en).getD i .none] := by
  refine List.ext_getElem? fun i => ?_
  unfold enumL
  rw [List.map_map, List.getElem?_map, List.getElem?_map, List.getElem?_zipIdx, List.length_map]
  by_cases h : i < xs.length
  · rw [List.getElem?_eq_getElem h, List.getElem?_eq_getElem (by rw [List.length_range]; exact h), List.getElem_range]
    simp [h]
  · rw [List.getElem?_eq_none (by omega), List.getElem?_eq_none (by rw [List.length_range]; omega)]
    rfl
theorem eib_enum {elts : List Expr} {kk : Nat} {tpos : Pos} (hm : X.mg "enumerate" = none) (h : EvB X C k k1 δ a (fun r => ∃ xs : List α, r = .list (xs.map en) ∧ PS xs)) (hg : Gl X "enumerate" := by rfl) (h1 : starEach [a] X.env = (false, eval a X.env) :: starEach [] X.env := by rfl) (h2 : starEach [a] X.env = [(false, eval a X.env)] := by rfl) :
    EiB X C k k1 δ (.Tuple elts kk tpos) (.Call (.Name "enumerate" p) [a] [] pos) (fun p : Nat × α => PyData.tuple [.int (p.1 : Nat), en p.2]) (fun ys => ∃ xs, ys = enumL xs ∧ PS xs) :=
  (PI.small (pi_enum hg hm (pa_cons h pa_nil h1) h2)).imp fun σ H R ⟨M, ok, q⟩ => ⟨M, ok, fun v H1 r sm ok1 s p r => by
    obtain ⟨xs, rfl, p⟩ := p
    have r0 := r
    cases r with
    | @lst l vs _ h r => exact ⟨l, vs, rfl, SqL.of (hid_le _ _ h), fun sm2 => q _ H1 (enumL xs) sm2 ok1 ⟨xs, rfl, p⟩ (by rw [enum_eq]; exact yld_enum (small_sq (k := false) sm r0) r0)⟩⟩
/-- for .. in a list that is drawn -/
theorem hsb_for {G : Type} {iter : Expr} {body : List Stmt} {is : List Nat} {δx : List α → Nat → G → α → Dl} (inv : List α → Nat → G → Dl) (P : List α → Nat → G → Prop) (g0 : G) (hc : X.calm = true) (hp : PassesOwn (model X.prog X.w) X.A X.env X.xe)
    (h0 : ∀ xs, PS xs → P xs 0 g0) (l0 : ∀ xs, PS xs → Les (inv xs 0 g0) (bx k1 δ)) (hi : EiB X C k k1 δ tg iter en PS) (hg : ∀ ps xs k g x, PS xs → xs[k]? = some x → P xs k g → EvG X (C.pin ps) (inv xs k g) tg (en x) (δx xs k g x) is)
    (hb : ∀ ps xs k g x, PS xs → xs[k]? = some x → P xs k g → Ho X (Kn (C.pin ps) (δx xs k g x)) body (fun σ H => ∃ g', P xs (k + 1) g' ∧ Kn (C.pin ps) (inv xs (k + 1) g') σ H) Φ) (hs : ∀ x, foldedSetIterable iter X.env x = pure x := by intro _; rfl) :
    Hs X (Kn C (bx k δ)) (.For tg iter body [] pos) (fun σ H => ∃ xs g, PS xs ∧ P xs xs.length g ∧ Kn C (inv xs xs.length g) σ H) Φ := by
  have hb' : PSs X body (fun D σ H => ∃ z : { z : List α × Nat × G × α × List Pin // PS z.1 ∧ z.1[z.2.1]? = some z.2.2.2.1 ∧ P z.1 z.2.1 z.2.2.1 }, tP (Kn (C.pin z.1.2.2.2.2) (δx z.1.1 z.1.2.1 z.1.2.2.1 z.1.2.2.2.1)) (fun σ H => ∃ g', P z.1.1 (z.1.2.1 + 1) g' ∧ Kn (C.pin z.1.2.2.2.2) (inv z.1.1 (z.1.2.1 + 1) g') σ H) Φ D σ H) := PSs.ex fun z => hb _ _ _ _ _ z.2.1 z.2.2.1 z.2.2.2
  have hg' : PG X tg (fun v σ H Q => ∃ z : { z : List α × Nat × G × α × List Pin // PS z.1 ∧ z.1[z.2.1]? = some z.2.2.2.1 ∧ P z.1 z.2.1 z.2.2.1 }, tDg (C.pin z.1.2.2.2.2) (inv z.1.1 z.1.2.1 z.1.2.2.1) (en z.1.2.2.2.1) (δx z.1.1 z.1.2.1 z.1.2.2.1 z.1.2.2.2.1) is v σ H Q) := PG.ex fun z => hg _ _ _ _ _ z.2.1 z.2.2.1 z.2.2.2
  refine (ps_for hp hc hi hg' hb' hs).imp fun D σ H ⟨⟨M, ok⟩, q, q2⟩ => ⟨M, ok, fun J H1 xs sm1 ok1 px hy => ?_⟩
  obtain ⟨hz, ps, hps, hy⟩ := hy
  rw [List.length_map] at hz
  refine ⟨fun i m σ' H' => m = xs.length - i ∧ i ≤ xs.length ∧ ∃ g, P xs i g ∧ Kn (C.pin ps) (inv xs i g) σ' H', ⟨xs.length, by simp, Nat.zero_le _, g0, h0 xs px, M, (ok1.les (l0 xs px)).pinned hps⟩, ?_⟩
  rintro i m σ2 H2 ⟨rfl, hi, g, pg, M2, ok2⟩
  obtain ⟨go, stop⟩ := hy M2 i H2 (fun p hp => ok2.pin p (List.mem_append_left _ hp)) (fun z => nomatch z) ok2.trk
  by_cases hlt : i < xs.length
  · have hx : xs[i]? = some xs[i] := List.getElem?_eq_getElem hlt
    generalize xs[i] = x at hx
    obtain ⟨g1, g2⟩ := go (en x) (by rw [List.getElem?_map, hx]; rfl)
    refine .inr ⟨g1, fun σ' H' => ∃ g', P xs (i + 1) g' ∧ Kn (C.pin ps) (inv xs (i + 1) g') σ' H', fun σ' H' ⟨g', h1, h2⟩ => ⟨xs.length - (i + 1), by omega, rfl, hlt, g', h1, h2⟩, fun v H3 hv => ?_⟩
    obtain ⟨s3, rx⟩ := g2 v H3 hv
    exact ⟨⟨(xs, i, g, x, ps), px, hx, pg⟩, M2, ok2.mono s3, rx, fun σ3 o3 ok3 => ⟨⟨(xs, i, g, x, ps), px, hx, pg⟩, ⟨M2, ok3⟩, fun σ' H' h => h, q2⟩⟩
  · have e : i = xs.length := by omega
    subst e
    exact .inl ⟨stop (by rw [List.length_map]), q _ _ ⟨xs, g, px, pg, M2, ok2.unpin⟩⟩
/-- xs.append(a drawn thing) -/
theorem hsb_app (i : Nat) {x : Str} {xp ap : Pos} {fs : List PyData} (he : EvB X C k k1 δ e P) (hz : fs.length < sizeLine) (hi : (bx k δ)[i]? = some (some (.own fs)) := by rfl) (hi1 : (bx k1 δ)[i]? = some (some (.own fs)) := by rfl) (hN : X.N[i]? = some x := by rfl) (hv : Vis X.env.scope x := by first | exact Or.inl rfl | exact Or.inr (Or.inl rfl))
    (hd : (x == ("__debug__" : Str)) = false := by decide) (hcd : (x == ("__classdict__" : Str)) = false := by decide)
    (hbase : attributeBase (.Name x xp) "append" X.env (eval (.Name x xp) X.env) = eval (.Name x xp) X.env := by rfl)
    (hfew : ((backTo p (starEach [e] X.env)).all (fun x => !x.1) && (backToKw p (keywordEach [] X.env)).all (fun x => x.1.isSome)
      && decide (([e] : List Expr).length + ([] : List Keyword).length + (if ([] : List Keyword).isEmpty then 0 else 1) < 30)) = true := by rfl)
    (hline : (ap.endLine == p.line) = true := by rfl) (hst : starEach [e] X.env = (false, eval e X.env) :: starEach [] X.env := by rfl) (hplain : (backTo p (starEach [] X.env)).any (·.1) = false := by rfl)
    (hs : swapsWith (.Call (.Attribute (.Name x xp) "append" ap) [e] [] p) none pos.line X.env = pure false := by rfl) :
    Hs X (Kn C (bx k δ)) (.Expr (.Call (.Attribute (.Name x xp) "append" ap) [e] [] p) pos) (fun σ H => ∃ r, P r ∧ Kn C ((bx k1 δ).set i (some (.own (fs ++ [r])))) σ H) Φ :=
  (ps_expr (pe_bm PySem.F.plainAttrs_list PySem.F.slot_list_append PySem.F.type_list_append mt_append (pe_var hN hv hd hcd) (pa_cons he pa_nil hst) hbase hfew hline hst hplain) hs).imp fun D σ H ⟨⟨M, ok⟩, q, _⟩ => by
    obtain ⟨v, h1, l, xs, e1, e2, e3, e4, e5⟩ := ok.val i _ hi
    subst e1
    refine ⟨.ref l, h1, .inl ⟨rfl, _, .inl (.inl e4)⟩, M, ok, fun y H1 r sm ok1 s pr ry => ?_⟩
    obtain ⟨v, g1, l', xs', e1, f2, f3, f4, f5⟩ := ok1.val i _ hi1
    rw [h1] at g1
    cases g1
    cases e1
    exact ⟨l, xs', y, rfl, rfl, f4, by rw [f5.length]; exact hz, q _ _ ⟨r, pr, M, ok1.write hi1 h1 f2 f3 (f5.append (.cons ry .nil))⟩⟩
end
/-! ### what is drawn, by types -/
theorem perm_maps {α β : Type} {f : α → β} {l m : List β} (h : l.Perm m) : ∀ {gs : List α}, m = gs.map f → ∃ ts : List α, l = ts.map f ∧ ts.Perm gs := by
  induction h with
  | nil =>
    intro gs e
    have z : gs = [] := List.map_eq_nil_iff.mp e.symm
    subst z
    exact ⟨[], rfl, List.Perm.refl _⟩
  | cons x h ih =>
    intro gs e
    cases gs with
    | nil => cases e
    | cons g gs =>
      simp only [List.map_cons, List.cons.injEq] at e
      obtain ⟨ts, h1, h2⟩ := ih e.2
      exact ⟨g :: ts, by rw [List.map_cons, ← h1, ← e.1], h2.cons g⟩
  | swap x y l =>
    intro gs e
    cases gs with
    | nil => cases e
    | cons g gs =>
      cases gs with
      | nil => cases e
      | cons g' gs =>
        simp only [List.map_cons, List.cons.injEq] at e
        exact ⟨g' :: g :: gs, by rw [List.map_cons, List.map_cons, ← e.1, ← e.2.1, ← e.2.2], List.Perm.swap g g' gs⟩
  | trans h1 h2 ih1 ih2 =>
    intro gs e
    obtain ⟨ts, e1, p1⟩ := ih2 e
    obtain ⟨us, e2, p2⟩ := ih1 e1
    exact ⟨us, e2, p2.trans p1⟩
section
variable {α : Type} {X : Cx} {C : Cfg} {δ : Dl} {k k1 j : Nat} {a b e : Expr} {en : α → PyData} {gs : List α} {pos p py : Pos} {y : Str} {Pc : Nat → Prop} {i : Nat}
abbrev IsIn (en : α → PyData) (gs : List α) : PyData → Prop := fun r => ∃ t ∈ gs, r = en t
abbrev IsPick (en : α → PyData) (gs : List α) (Pc : Nat → Prop) : PyData → Prop := fun r => ∃ ts : List α, r = .list (ts.map en) ∧ (∃ rs, (ts ++ rs).Perm gs) ∧ ∃ c, Pc c ∧ ts.length = min c gs.length
theorem drawT (C1 : Cal X.prog X.w X.K X.mg X.base 1 "_law_take" (spB 1 1 Dtake Stake) []) (hr : Room j X.A) (ha : Ev X C (bx k δ) a (.int (i : Int))) (h0 : 0 < i) (h1 : i < 1073741824) (hk : k = k1 + 1) (hj : 1 ≤ j) (hg : Gl X "_law_take" := by rfl)
    (hN : X.N[0]? = some y := by rfl) (hv : Vis X.env.scope y := by first | exact Or.inl rfl | exact Or.inr (Or.inl rfl) | exact Or.inr (Or.inr rfl)) (hd : (y == ("__debug__" : Str)) = false := by decide) (hcd : (y == ("__classdict__" : Str)) = false := by decide)
    (he : starEach [.Name y py, a] X.env = (false, eval (.Name y py) X.env) :: starEach [a] X.env := by rfl) (hs : starEach [a] X.env = (false, eval a X.env) :: starEach [] X.env := by rfl) (hpl : (backTo pos (starEach [a] X.env)).any (·.1) = false := by rfl) :
    EvB X C k k1 δ (.Call (.Name "_law_take" p) [.Name y py, a] [] pos) (fun r => ∃ n : Nat, r = .int n ∧ n < i) := by
  subst hk
  refine EvB.imp (evb_call (k1 := k1) C1 hr (eab_cons (evb ha) eab_nil hs) (fun ds h => ?_) hj hg hN hv hd hcd (by decide) he hpl) fun r h => ?_
  · obtain ⟨r, rs, rfl, rfl, rfl⟩ := h
    exact ⟨rfl, _, rfl, by omega, by omega⟩
  · obtain ⟨ds, ⟨r', rs, rfl, rfl, rfl⟩, z, n, e, rfl, h3, h4⟩ := h
    have e : z = (i : Int) := by
      have := List.cons.inj e
      injection this.1 with h
      exact h.symm
    exact ⟨n.toNat, by congr 1; omega, by omega⟩
theorem drawO {P0 : α → Prop} (C1 : Cal X.prog X.w X.K X.mg X.base 2 "_law_of" (spB 1 1 Dof Sof) []) (hr : Room j X.A) (ha : EvB X C k (k1 + 1) δ a (fun r => ∃ gs : List α, r = .list (gs.map en) ∧ gs ≠ [] ∧ gs.length ≤ 1000 ∧ ∀ t ∈ gs, P0 t)) (hj : 2 ≤ j) (hg : Gl X "_law_of" := by rfl)
    (hN : X.N[0]? = some y := by rfl) (hv : Vis X.env.scope y := by first | exact Or.inl rfl | exact Or.inr (Or.inl rfl) | exact Or.inr (Or.inr rfl)) (hd : (y == ("__debug__" : Str)) = false := by decide) (hcd : (y == ("__classdict__" : Str)) = false := by decide)
    (he : starEach [.Name y py, a] X.env = (false, eval (.Name y py) X.env) :: starEach [a] X.env := by rfl) (hs : starEach [a] X.env = (false, eval a X.env) :: starEach [] X.env := by rfl) (hpl : (backTo pos (starEach [a] X.env)).any (·.1) = false := by rfl) :
    EvB X C k k1 δ (.Call (.Name "_law_of" p) [.Name y py, a] [] pos) (fun r => ∃ t : α, r = en t ∧ P0 t) := by
  refine EvB.imp (evb_call (k1 := k1) C1 hr (eab_cons ha eab_nil hs) (fun ds h => ?_) hj hg hN hv hd hcd (by decide) he hpl) fun r h => ?_
  · obtain ⟨r, rs, rfl, ⟨gs, rfl, ne, few, _⟩, rfl⟩ := h
    exact ⟨rfl, _, rfl, by simpa using ne, by rw [List.length_map]; exact few⟩
  · obtain ⟨ds, ⟨r', rs, rfl, ⟨gs, rfl, ne, few, hP⟩, rfl⟩, gs', e, hm⟩ := h
    have e : gs.map en = gs' := by
      have := List.cons.inj e
      injection this.1 with h
    rw [← e] at hm
    obtain ⟨t, ht, rfl⟩ := List.mem_map.mp hm
    exact ⟨t, rfl, hP t ht⟩
theorem drawP (C1 : Cal X.prog X.w X.K X.mg X.base 2 "_law_pick" (spB 2 9 Dpick Spick) []) (hr : Room j X.A) (ha : Ev X C (bx k δ) a (.list (gs.map en))) (hb : EvB X C k (k1 + 9) δ b (fun r => ∃ c : Nat, r = .int c ∧ Pc c)) (h9 : gs.length ≤ 9) (hj : 2 ≤ j) (hg : Gl X "_law_pick" := by rfl)
    (hN : X.N[0]? = some y := by rfl) (hv : Vis X.env.scope y := by first | exact Or.inl rfl | exact Or.inr (Or.inl rfl) | exact Or.inr (Or.inr rfl)) (hd : (y == ("__debug__" : Str)) = false := by decide) (hcd : (y == ("__classdict__" : Str)) = false := by decide)
    (he : starEach [.Name y py, a, b] X.env = (false, eval (.Name y py) X.env) :: starEach [a, b] X.env := by rfl) (hs : starEach [a, b] X.env = (false, eval a X.env) :: starEach [b] X.env := by rfl) (hs2 : starEach [b] X.env = (false, eval b X.env) :: starEach [] X.env := by rfl) (hpl : (backTo pos (starEach [a, b] X.env)).any (·.1) = false := by rfl) :
    EvB X C k k1 δ (.Call (.Name "_law_pick" p) [.Name y py, a, b] [] pos) (IsPick en gs Pc) := by
  refine EvB.imp (evb_call (k1 := k1) C1 hr (eab_cons (evb ha) (eab_cons hb eab_nil hs2) hs) (fun ds h => ?_) hj hg hN hv hd hcd (by decide) he hpl) fun r h => ?_
  · obtain ⟨r, rs, rfl, rfl, r', rs', rfl, ⟨c, rfl, _⟩, rfl⟩ := h
    exact ⟨rfl, _, _, rfl, by rw [List.length_map]; exact h9⟩
  · obtain ⟨ds, ⟨r', rs, rfl, rfl, r2, rs2, rfl, ⟨c, rfl, pc⟩, rfl⟩, gs', c', l, rest, e, rfl, pm, len⟩ := h
    have e1 : gs.map en = gs' := by
      have := List.cons.inj e
      injection this.1 with h
    have e2 : c = c' := by
      have := List.cons.inj (List.cons.inj e).2
      injection this.1 with h
      omega
    subst e1 e2
    obtain ⟨us, e3, p3⟩ := perm_maps pm rfl
    obtain ⟨ts, rs, rfl, h1, h2⟩ := List.append_eq_map_iff.mp e3
    refine ⟨ts, by rw [← h1], ⟨rs, p3⟩, c, pc, ?_⟩
    rw [← h1, List.length_map, List.length_map] at len
    exact len
end
end Kl
/-! W17: comprehensions that draw. -/
namespace Kl
open PySem PySem.Spec PyProof.Rows L2 PySem.W
open C8 (Cal pe_c)
inductive All2 {α β : Type} (P : α → β → Prop) : List α → List β → Prop
  | nil : All2 P [] []
  | cons {x : α} {y : β} {xs : List α} {ys : List β} : P x y → All2 P xs ys → All2 P (x :: xs) (y :: ys)
theorem All2.snoc {α β : Type} {P : α → β → Prop} {x : α} {y : β} (h : P x y) : ∀ {xs : List α} {ys : List β}, All2 P xs ys → All2 P (xs ++ [x]) (ys ++ [y])
  | _, _, .nil => .cons h .nil
  | _, _, .cons p r => .cons p (All2.snoc h r)
theorem All2.len {α β : Type} {P : α → β → Prop} : ∀ {xs : List α} {ys : List β}, All2 P xs ys → ys.length = xs.length
  | _, _, .nil => rfl
  | _, _, .cons _ r => by rw [List.length_cons, List.length_cons, All2.len r]
section
variable {α β : Type} {C : Cfg} {xs : List α} {en : α → PyData} {en2 : β → PyData} {P : α → β → Prop} {δ : Dl} {δt : α → Dl} {is vs : List Nat} {K b n : Nat}
theorem OkM.updNo {M : List Addr} {σ : L2.St} {H : Hp} {l : Addr} {o : HO} (ok : OkM C M δ σ H) (hl : l ∈ M) (h0 : C.H0 l = none) (no : noTup o = true) (far : ∀ (j : Nat) u, δ[j]? = some (some u) → isOwn u = true → σ[j]? ≠ some (some (.ref l))) : OkM C M δ σ (upd H l o) := by
  have sh : hid M (upd H l o) = hid M H := hid_in hl
  refine ⟨fun a u h1 h2 => by rw [upd_ne (fun z => by rw [z, h0] at h2; cases h2)]; exact ok.fr a u h1 h2, ok.t0, ok.b0, ok.sub, fun m hm => ?_, fun p hp => by rw [sh]; exact ok.pin p hp, ok.len, fun i e h => ?_, ok.apart⟩
  · by_cases e : m = l
    · rw [e, upd_same]; exact ⟨_, rfl, no⟩
    · rw [upd_ne e]; exact ok.trk m hm
  · obtain ⟨w, h1, h2⟩ := ok.val i e h
    refine ⟨w, h1, ?_⟩
    have ne : isOwn e = true → w ≠ .ref l := fun ho z => far i e h ho (by rw [h1, z])
    cases e with
    | dat d => exact (by rw [sh]; exact h2 : Rp (hid M (upd H l o)) w d)
    | own ds' =>
      obtain ⟨l', xs', rfl, q2, q3, q4, q5⟩ := h2
      exact ⟨l', xs', rfl, q2, q3, by rw [upd_ne (fun z => ne rfl (by rw [z]))]; exact q4, by rw [sh]; exact q5⟩
    | tbl ks0 ds' =>
      obtain ⟨l', xs', rfl, q2, q3, q4, q5⟩ := h2
      exact ⟨l', xs', rfl, q2, q3, by rw [upd_ne (fun z => ne rfl (by rw [z]))]; exact q4, by rw [sh]; exact q5⟩
    | dct L =>
      obtain ⟨l', rfl, q2, q3, q4, q5⟩ := h2
      exact ⟨l', rfl, q2, q3, q4, by rw [upd_ne (fun z => ne rfl (by rw [z]))]; exact q5⟩
    | box n =>
      obtain ⟨l', rfl, q2, q3, g, s, c, q4, q5⟩ := h2
      exact ⟨l', rfl, q2, q3, g, s, c, by rw [upd_ne (fun z => ne rfl (by rw [z]))]; exact q4, q5⟩
    | scr ns =>
      obtain ⟨l', q1, q2⟩ := h2
      exact ⟨l', q1, by rw [sh]; exact q2⟩
theorem lc_readB (his : ∀ i ∈ is, i ∈ vs) (hv0 : 0 ∉ vs) {M : List Addr} {σ : L2.St} {H : Hp} {Q : VK} (hn : n = b + K * xs.length) (ok : OkM C M (bx n δ) σ H)
    (q : ∀ l zs ys H', OkM C (l :: M) (bx b δ) σ H' → H' l = some (.lst zs) → C.H0 l = none → (∀ (j : Nat) u, (bx b δ)[j]? = some (some u) → isOwn u = true → σ[j]? ≠ some (some (.ref l))) → All2 P xs ys → Rps (hid (l :: M) H') zs (ys.map en2) → Q (.ref l) H') :
    tLc (tDi false C (bx n δ) (xs.map en)) (fun v σ H Q => ∃ z : { x : α // x ∈ xs } × Nat, tDg C (wipeD (bx z.2 δ) vs) (en z.1.1) (bx z.2 (δt z.1.1)) is v σ H Q) (fun σ H Q => ∃ z : { x : α // x ∈ xs } × Nat, tDt C (bx z.2 (δt z.1.1)) true σ H Q)
      (fun σ H Q => ∃ z : { x : α // x ∈ xs } × Nat, tB C (z.2 + K) z.2 (δt z.1.1) (fun r => ∃ y, r = en2 y ∧ P z.1.1 y) σ H Q) vs σ H Q := by
  refine ⟨M, ok, fun J H1 sm1 s1 hy D hD => ?_⟩
  obtain ⟨hz, ps, hps, hy⟩ := hy
  have ok1 := ok.mono s1
  have hDM : D ∉ M := ok1.trk.out hD
  have far := far_new ok1 hD
  have h0D := ok1.new0 hD (ok1.outB hD)
  rw [List.length_map] at hz
  have start : OkM C (D :: M) (bx n δ) σ (upd H1 D (.lst [])) := ok1.more hD
  refine ⟨fun i m H' => m = xs.length - i ∧ i ≤ xs.length ∧ Same (hid M H1) (hid (D :: M) H') ∧ OkM C (D :: M) (bx (b + K * (xs.length - i)) δ) σ H' ∧ ∃ acc ys, H' D = some (.lst acc) ∧ All2 P (xs.take i) ys ∧ Rps (hid (D :: M) H') acc (ys.map en2), ⟨xs.length, by simp, Nat.zero_le _, hid_more hD, by rw [Nat.sub_zero, ← hn]; exact start, [], [], upd_same, .nil, .nil⟩, ?_⟩
  rintro i m H2 ⟨rfl, hi, sh, okM2, acc, ys, hacc, al, rr⟩
  obtain ⟨go, stop⟩ := hy (D :: M) i H2 (fun p hp => p.up sh (hps p hp)) (fun z => nomatch z) okM2.trk
  by_cases hlt : i < xs.length
  · have hx : xs[i]? = some xs[i] := List.getElem?_eq_getElem hlt
    have hmem : xs[i] ∈ xs := List.getElem_mem hlt
    generalize xs[i] = x at hx hmem
    obtain ⟨g1, g2⟩ := go (en x) (by rw [List.getElem?_map, hx]; rfl)
    have eb : b + K * (xs.length - i) = (b + K * (xs.length - (i + 1))) + K := by
      have : xs.length - i = (xs.length - (i + 1)) + 1 := by omega
      rw [this, Nat.mul_add]
      omega
    refine .inr ⟨g1, fun H' => Same (hid M H1) (hid (D :: M) H') ∧ OkM C (D :: M) (bx (b + K * (xs.length - (i + 1))) δ) σ H' ∧ ∃ acc ys, H' D = some (.lst acc) ∧ All2 P (xs.take (i + 1)) ys ∧ Rps (hid (D :: M) H') acc (ys.map en2), fun H' hN => ⟨xs.length - (i + 1), by omega, rfl, hlt, hN⟩, fun v H3 hv => ?_⟩
    obtain ⟨s3, rx⟩ := g2 v H3 hv
    refine ⟨⟨⟨x, hmem⟩, b + K * (xs.length - i)⟩, D :: M, (okM2.mono s3).wipe vs, rx, fun σ2 o2 ok2 => ⟨(wipe_onl o2 his).trans ?_, ⟨⟨x, hmem⟩, b + K * (xs.length - i)⟩, D :: M, ok2, fun H4 sm4 s4 => ?_⟩⟩
    · have w2 : ∀ (τ : L2.St) (us : List Nat), L2.wipe (L2.wipe τ us) us = L2.wipe τ us := fun τ us => by
        refine wipe_onl (is := us) ⟨wipe_length _ _, fun j hj => wipe_out hj⟩ fun i h => h
      exact w2 σ vs
    · have et : xs.take (i + 1) = xs.take i ++ [x] := by rw [List.take_add_one, hx]; rfl
      have ok4 : OkM C (D :: M) (bx (b + K * (xs.length - i)) δ) σ H4 := (okM2.mono s3).mono s4
      refine iteT ⟨⟨⟨x, hmem⟩, b + K * (xs.length - (i + 1))⟩, D :: M, by rw [← eb]; exact ok2.mono s4, fun y H5 r sm5 ok5 mv p5 ry => ?_⟩
      obtain ⟨yy, rfl, py⟩ := p5
      obtain ⟨mv1, bb, hb2, sx⟩ := mv
      have sl0 : σ2[0]? = σ[0]? := by rw [o2.2 0 (fun z => hv0 (his 0 z)), wipe_out hv0]
      rw [sl0] at hb2
      obtain ⟨b1, hb1, bM, bB, at4⟩ := ok4.box
      rw [hb1] at hb2
      cases hb2
      obtain ⟨b2, hb5, _, _, at5⟩ := ok5.box
      rw [sl0, hb1] at hb5
      cases hb5
      have ok5' : OkM C (D :: M) (bx (b + K * (xs.length - (i + 1))) δ) σ H5 := ok4.boxed hb1 sx at5 bM bB
      have neD : D ≠ bb := fun e => far 0 (.box (Bud n)) rfl rfl (by rw [hb1, e])
      have hD5 : H5 D = some (.lst acc) := sx _ _ neD (s4 _ _ (s3 _ _ hacc))
      have sh5 : Same (hid M H1) (hid (D :: M) H5) := sh.trans ((hid_same (s3.trans s4)).trans mv1)
      refine ⟨acc, hD5, ?_, ?_, ?_, acc ++ [y], ys ++ [yy], upd_same, ?_, ?_⟩
      · have l1 := rr.length
        rw [List.length_map] at l1
        have l2 := al.len
        rw [List.length_take] at l2
        omega
      · rw [hid_in List.mem_cons_self]
        exact sh5
      · refine ok5'.updNo List.mem_cons_self h0D rfl fun j u hj ho => ?_
        cases j with
        | zero => exact far 0 (.box (Bud n)) rfl rfl
        | succ j => exact far (j + 1) u (by simpa using hj) ho
      · rw [et]
        exact al.snoc py
      · rw [hid_in List.mem_cons_self, List.map_append]
        exact (rr.mono ((hid_same (s3.trans s4)).trans mv1)).append (.cons ry .nil)
  · have e : i = xs.length := by omega
    subst e
    rw [List.take_length] at al
    rw [Nat.sub_self, Nat.mul_zero, Nat.add_zero] at okM2
    exact .inl ⟨stop (by rw [List.length_map]), q D acc ys H2 okM2 hacc h0D (fun j u hj ho => by
      cases j with
      | zero => exact far 0 (.box (Bud n)) rfl rfl
      | succ j => exact far (j + 1) u (by simpa using hj) ho) al rr⟩
variable {X : Cx} {elt iter tg : Expr} {scope : Scope} {pos : Pos} {Φ : VK}
/-- y = [a drawn thing for ..] -/
theorem hsb_lc (i : Nat) (own : List (Str × Nat)) {y : Str} {py spos : Pos} (hc : X.calm = true) (hN : X.N.Nodup) (hi : EvI false X C (bx n δ) tg iter (xs.map en)) (hn : n = b + K * xs.length) (his : ∀ i ∈ is, i ∈ own.map (·.2)) (hv0 : 0 ∉ own.map (·.2))
    (hg : ∀ (s : Shared) (H : Hp) (Cc : Addr) (cl : List (Str × Addr)) (fp : List Addr) (m : Nat) (x : α), EvG (X.blk s H scope (compEnvC scope cl Cc X.env) fp) C (wipeD (bx m δ) (own.map (·.2))) tg (en x) (bx m (δt x)) is)
    (he : ∀ (s : Shared) (H : Hp) (Cc : Addr) (cl : List (Str × Addr)) (fp : List Addr) (m : Nat) (x : α), x ∈ xs → EvB (X.blk s H scope (compEnvC scope cl Cc X.env) fp) C (m + K) m (δt x) elt (fun r => ∃ y, r = en2 y ∧ P x y))
    (ok : BlkOk X.N X.env.scope scope own := by exact blkOk_by (by kernel_rfl)) (hsw : swapsWith (.ListComp elt [⟨tg, iter, [], 0⟩] scope pos) (some (.Name y py)) spos.line X.env = pure true := by exact sw_true rfl rfl rfl (by kernel_rfl))
    (hy : X.N[i]? = some y := by rfl) (hyl : X.env.scope.names.lookup y = some .local := by rfl) (hs : ∀ x, foldedSetIterable iter X.env x = pure x := by intro _; rfl) :
    Hs X (Kn C (bx n δ)) (.Assign [.Name y py] (.ListComp elt [⟨tg, iter, [], 0⟩] scope pos) spos) (fun σ H => ∃ ys, All2 P xs ys ∧ Kn C ((bx b δ).set i (some (.own (ys.map en2)))) σ H) Φ :=
  (ps_setLc hc hN hy hyl hsw hi ok (fun s H Cc cl fp => PG.ex fun z : { x : α // x ∈ xs } × Nat => hg s H Cc cl fp z.2 z.1.1) (fun s H Cc cl fp => PTs.ex fun z : { x : α // x ∈ xs } × Nat => pts0) (fun s H Cc cl fp => PE.ex fun z : { x : α // x ∈ xs } × Nat => he s H Cc cl fp z.2 z.1.1 z.1.2) hs).imp
    fun D σ H ⟨⟨M, ok⟩, q, _⟩ => lc_readB his hv0 hn ok fun l zs ys H' ok' hl h0 far al r => q _ _ ⟨ys, al, l :: M, ok'.putO (fun j u _ hj ho => far j u hj ho) ⟨l, zs, rfl, List.mem_cons_self, h0, hl, r⟩⟩
/-- slices -/
theorem ef_sl {lo hi : Option Expr} {tl th : TO} {a : Expr} {ds : List PyData} {l u : Option Int} {p2 : Pos} {δ : Dl} (ha : EvL X C δ a ds) (hl : PO X lo tl) (hu : PO X hi th)
    (tl' : ∀ {M σ H} {R : Option Int → Hp → Prop}, OkM C M δ σ H → (∀ H', Same H H' → R l H') → tl σ H R) (th' : ∀ {M σ H} {R : Option Int → Hp → Prop}, OkM C M δ σ H → (∀ H', Same H H' → R u H') → th σ H R) :
    EvF X C δ (.Subscript a (.Slice lo hi none p2) pos) ((ds.drop (HT.sIx ds.length 0 l)).take (HT.sIx ds.length ds.length u - HT.sIx ds.length 0 l)) :=
  EvF.mk (pe_slice sl_list ha hl hu) fun M σ H Q ok q => ⟨M, ok, fun x vs H1 sm s hx r => by
    refine tl' (ok.mono s) fun H2 s2 => ?_
    refine th' (ok.mono (s.trans s2)) fun H3 s3 => ?_
    refine ⟨x, vs, rfl, SqL.of (s3 _ _ (s2 _ _ hx)), fun p hp sm3 => q p _ _ sm3 (((s.trans s2).trans s3).trans (same_new hp)) (Same.free ((s.trans s2).trans s3) hp) upd_same ?_⟩
    have e := r.length
    unfold cutV
    rw [e]
    have okx := ok.mono ((s.trans s2).trans s3)
    refine Rps.mono ?_ (((r.mono (hid_same (s2.trans s3))).drop _).take _)
    exact new_hid okx.trk hp⟩
theorem po_nat {δ : Dl} {e : Expr} {k : Nat} (he : Ev X C δ e (.int (k : Int))) : ∃ tl : TO, PO X (some e) tl ∧ ∀ {M σ H} {R : Option Int → Hp → Prop}, OkM C M δ σ H → (∀ H', Same H H' → R (some (k : Int)) H') → tl σ H R :=
  ⟨_, po_some he, fun ok q => ⟨_, ok, fun v H' sm s r => by cases r; exact ⟨_, rfl, q H' s⟩⟩⟩
theorem ef_take {a e : Expr} {ds : List PyData} {k : Nat} {p2 : Pos} {δ : Dl} (ha : EvL X C δ a ds) (he : Ev X C δ e (.int (k : Int))) : EvF X C δ (.Subscript a (.Slice none (some e) none p2) pos) (ds.take k) := by
  obtain ⟨tl, h1, h2⟩ := po_nat he
  refine EvF.cast (ef_sl (l := none) (u := some (k : Int)) ha po_none h1 (fun ok q => q _ (Same.refl _)) h2) ?_
  rw [HT.sIx_none, HT.sIx_nat, List.drop_zero, Nat.sub_zero]
  rcases Nat.le_total k ds.length with h | h
  · rw [Nat.min_eq_left h]
  · rw [Nat.min_eq_right h, List.take_length, List.take_of_length_le h]
theorem ef_drop {a e : Expr} {ds : List PyData} {k : Nat} {p2 : Pos} {δ : Dl} (ha : EvL X C δ a ds) (he : Ev X C δ e (.int (k : Int))) : EvF X C δ (.Subscript a (.Slice (some e) none none p2) pos) (ds.drop k) := by
  obtain ⟨tl, h1, h2⟩ := po_nat he
  refine EvF.cast (ef_sl (l := some (k : Int)) (u := none) ha h1 po_none h2 (fun ok q => q _ (Same.refl _))) ?_
  rw [HT.sIx_none, HT.sIx_nat]
  rcases Nat.le_total k ds.length with h | h
  · rw [Nat.min_eq_left h, List.take_of_length_le (by rw [List.length_drop]; exact Nat.le_refl _)]
  · rw [Nat.min_eq_right h, List.drop_length, List.drop_of_length_le h]
    simp
end
end Kl
/-! W18: the bits. -/
namespace Kl
open PySem PySem.Spec PyProof.Rows L2 PySem.W
open C8 (Cal pe_c)
section
variable {X : Cx} {C : Cfg} {δ : Dl} {k k1 : Nat} {a b c e : Expr} {sts rest : List Stmt} {R : Ass} {Φ : VK} {pos p q : Pos} {n : Nat} {ds : List PyData} {d : PyData}
theorem hsb_if (hc : EtB X C k k1 δ c) (ha : Ho X (Kn C (bx k1 δ)) sts R Φ) (hb : Ho X (Kn C (bx k1 δ)) rest R Φ) : Hs X (Kn C (bx k δ)) (.If c sts rest pos) R Φ := by
  refine ⟨fun pins s σ H D I h => ?_⟩
  obtain ⟨⟨M, ok⟩, q, q2⟩ := h
  refine wpAny_If (thn (hc.run pins s σ H (fun _ H1 => OkM C M (bx k1 δ) σ H1) I ⟨M, ok, fun t H' sm ok' s => ok'⟩) fun d s1 ⟨H1, I1, ok1⟩ => ?_)
  cases d with
  | true => exact ha.run pins s1 σ H1 D I1 ⟨⟨M, ok1⟩, q, q2⟩
  | false => exact hb.run pins s1 σ H1 D I1 ⟨⟨M, ok1⟩, q, q2⟩
theorem evb_max2 {i : Int} (hm : X.mg "max" = none) (hc : X.calm = true) (ha : Ev X C (bx k δ) a (.int i)) (hb : EvB X C k k1 δ b isI) (hg : Gl X "max" := by rfl) (he : starEach [a, b] X.env = (false, eval a X.env) :: starEach [b] X.env := by rfl) (he2 : starEach [b] X.env = (false, eval b X.env) :: starEach [] X.env := by rfl) (hpl : (backTo pos (starEach [b] X.env)).any (·.1) = false := by rfl) :
    EvB X C k k1 δ (.Call (.Name "max" p) [a, b] [] pos) isI :=
  EvB.mk (pe_callB (call_max2 hc) hg hm (by decide +kernel) (pa_cons (evb ha) (pa_cons hb pa_nil he2) he) (by decide) (by decide) he hpl) fun M σ H Q ok q => ⟨M, ok, fun v H1 r sm ok1 s p1 rv => ⟨M, ok1, fun w H2 r2 sm2 ok2 s2 p2 rw => by
    subst p1
    obtain ⟨j, rfl⟩ := p2
    cases rv
    cases rw
    exact ⟨i, j, rfl, fun sm3 => q _ H2 _ sm3 ok2 (s.trans s2) ⟨_, rfl⟩ (.int _)⟩⟩⟩
theorem rgV_rps {H : Hp} (n : Nat) : Rps H (rgV 0 n) ((List.range n).map fun i => .int (i : Nat)) := by
  have e : rgV 0 (n : Int) = (List.range n).map fun i => V.int (i : Nat) := by
    unfold rgV
    rw [Int.sub_zero, Int.toNat_natCast]
    exact List.map_congr_left fun i _ => by rw [Int.zero_add]
  rw [e]
  exact Rps.all (fun i => .int _) _
theorem ef_listRg (hm : X.mg "list" = none) (hm2 : X.mg "range" = none) (hc : X.calm = true) (ha : Ev X C δ a (.int (n : Int))) (hz : n ≤ 16777216) (hg : Gl X "list" := by rfl) (hg2 : Gl X "range" := by rfl) (n1 : starEach [a] X.env = (false, eval a X.env) :: starEach [] X.env := by rfl)
    (n2 : starEach [Expr.Call (.Name "range" q) [a] [] p] X.env = (false, eval (Expr.Call (.Name "range" q) [a] [] p) X.env) :: starEach [] X.env := by rfl) : EvF X C δ (.Call (.Name "list" p2) [.Call (.Name "range" q) [a] [] p] [] pos) ((List.range n).map fun i => .int (i : Nat)) :=
  EvF.mk (pe_listRg hc hg hm (prg_1 hg2 hm2 ha n1) n2) fun M σ H Q ok qq => ⟨M, ok, fun v H1 sm s r => by
    cases r
    refine ⟨n, rfl, RgOk.of_le (by omega) (by omega) (by omega) (by omega), fun l hl sm2 => qq l _ _ sm2 (s.trans (same_new hl)) (Same.free s hl) upd_same (rgV_rps n)⟩⟩
/-- xs[i] = e on a list of one's own -/
theorem hs_oset (i n : Nat) {x : Str} {px ps : Pos} {ix : Expr} (he : Ev X C δ e d) (hx : Ev X C δ ix (.int (n : Int))) (hn : n < ds.length) (hi : δ[i]? = some (some (.own ds)) := by rfl) (hN : X.N[i]? = some x := by rfl) (hv : Vis X.env.scope x := by first | exact Or.inl rfl | exact Or.inr (Or.inl rfl) | exact Or.inr (Or.inr rfl))
    (hd : (x == ("__debug__" : Str)) = false := by decide) (hcd : (x == ("__classdict__" : Str)) = false := by decide)
    (ha : ∀ v, assign (.Subscript (.Name x px) ix ps) X.env v = (do
      let ov ← holding [v] (eval (.Name x px) X.env)
      let iv ← holding [v, ov] (eval ix X.env)
      standAt ps
      holding [v, ov, iv] (setItem ov iv v)
      release [v, ov, iv] []) := by intro _; rfl) (hs : swapsWithSole [.Subscript (.Name x px) ix ps] e pos.line X.env = pure false := by rfl) (hw : swappedStores [.Subscript (.Name x px) ix ps] e X.env = pure none := by rfl)
    (h1 : (assignEach [.Subscript (.Name x px) ix ps] X.env).map (·.2) = [assign (.Subscript (.Name x px) ix ps) X.env] := by rfl) :
    Hs X (Kn C δ) (.Assign [.Subscript (.Name x px) ix ps] e pos) (Kn C (δ.set i (some (.own (ds.set n d))))) Φ :=
  (ps_asg he (pg_sub (pe_var hN hv hd hcd) hx set_list ha) hs hw h1).imp fun D σ H ⟨⟨M, ok⟩, q, _⟩ => ⟨M, ok, fun u H1 sm t r => by
    have ok1 := ok.mono t
    obtain ⟨v, b1, l, xs, rfl, b2, b3, b4, b5⟩ := ok1.val i _ hi
    refine ⟨.ref l, b1, M, ok1, fun w H2 sm2 t2 r2 => ?_⟩
    cases r2
    have ok2 := ok1.mono t2
    have hl : n < xs.length := by rw [b5.length]; exact hn
    refine ⟨l, xs, n, n, rfl, rfl, t2 _ _ b4, ?_, q _ _ ⟨M, ok2.write hi b1 b2 b3 ((b5.mono (hid_same t2)).set n (r.mono (hid_same t2)))⟩⟩
    unfold ixN
    rw [if_pos (by omega), if_pos (by omega), Int.toNat_natCast]⟩
end
theorem set_eq {α : Type} : ∀ (l : List α) (k : Nat) (x : α), k < l.length → l.take k ++ [x] ++ l.drop (k + 1) = l.set k x
  | [], _, _, h => by simp at h
  | y :: r, 0, x, _ => rfl
  | y :: r, k + 1, x, h => by
    have := set_eq r k x (by simpa using h)
    simp only [List.take_succ_cons, List.drop_succ_cons, List.set_cons_succ, List.cons_append]
    exact congrArg _ this
section
variable {P : Program} {w : World} {K : PySem.W.Frag} {mg : Str → Option Value} {base : Heap}
def Dbits : List PyData → Prop := fun ds => ∃ n kit, ds = [eN n, eK kit] ∧ (yards n).length ≤ 8 ∧ n.cs ≠ [] ∧ n.cs.length ≤ 9
def Sbits : List PyData → PyData → Prop := fun ds r => ∃ lot, r = eLot lot
theorem sc69 : FnScope ["_law_box_here", "_law_web_here", "_law_kit", "_law_bits_so", "_law_k", "_law_lap", "_law_far", "_law_own", "_law_bit"] ["_law_box_here", "_law_web_here", "_law_kit"] (defScope (topS 69)) := ⟨rfl, rfl, rfl, by decide +kernel, rfl, by decide +kernel, by decide +kernel⟩
theorem c_bits (G : Mg mg) (F : Df K mg "_law_bits" ["_law_box_here", "_law_web_here", "_law_kit"] (topS 69)) (C1 : Cal P w K mg base 1 "_law_take" (spB 1 1 Dtake Stake) []) (C2 : Cal P w K mg base 2 "_law_of" (spB 1 1 Dof Sof) []) (C3 : Cal P w K mg base 2 "_law_pick" (spB 2 9 Dpick Spick) []) (C4 : Cal P w K mg base 2 "_law_go" (spR 3 SlGo) []) : Cal P w K mg base 3 "_law_bits" (spB 2 19 Dbits Sbits) [] := by
  refine cal_ofB F sc69 rfl fun f cdv A outer s H E M b m hr ds hl hD => ?_
  obtain ⟨n, kit, rfl, few, ne, nine⟩ := hD
  have pos := List.length_pos_iff.mpr ne
  have sz := sizeLine_eq
  refine ho_cons (hs_1 (xs := n.cs) (en := eC) (f := fun _ => .int 0) 3 7 sc69.nd (ei_T (ev_ixT (nv 1) ev_int)) (fun _ _ _ _ _ x _ => ev_int)) ?_
  refine ho_freeze 3 rfl ?_
  have st : n.cs.map (fun _ => PyData.int 0) = (n.cs.map fun _ => (0 : Int)).map .int := by rw [List.map_map]; rfl
  rw [st]
  have l0 : (n.cs.map fun _ => (0 : Int)).length = n.cs.length := List.length_map _
  generalize (n.cs.map fun _ => (0 : Int)) = lot0 at l0
  let base : List Int → Option Ent → Option Ent → Dl := fun lot u v => [some (.dat (eN n)), some (.dat (eK kit)), some (.dat (eLi lot)), u, none, none, none, none]
  refine ho_cons (hsb_for (k := m + 19) (k1 := m + 10) (G := List Int) (en := fun i : Nat => .int i) (PS := fun xs : List Nat => ∀ x ∈ xs, x < n.cs.length) (is := [4]) (δx := fun _ _ lot x => bx (m + 10) [some (.dat (eN n)), some (.dat (eK kit)), some (.dat (eLi lot)), some (.dat (.int (x : Nat))), none, none, none, none])
    (fun _ _ lot => bx (m + 10) [some (.dat (eN n)), some (.dat (eK kit)), some (.dat (eLi lot)), none, none, none, none, none]) (fun _ _ lot => lot.length = n.cs.length) lot0 rfl PassesOwn.never (fun _ _ => l0) (fun _ _ => Les.refl _)
    (eib_L (EvB.imp (drawP (gs := List.range n.cs.length) (en := fun i : Nat => .int i) (Pc := fun _ => True) C3 hr (Ev.cast (ef_listRg (n := n.cs.length) (G.no "list" (by decide)) (G.no "range" (by decide)) rfl (Ev.cast (ev_len (ds := lot0.map .int) (G.no "len" (by decide)) (nv 3).seqL) ?_) (by omega)).ev rfl) (EvB.imp (evb ev_int) fun r e => ⟨9, e, trivial⟩) (by rw [List.length_range]; exact nine) (by decide)) fun r h => ?_))
    (fun ps xs t lot x _ hx _ => gn 4 sc69.nd) (fun ps xs t lot x px hx pl => ?_)) ?_
  · rw [List.length_map, l0]
  · obtain ⟨ts, rfl, ⟨rs, pm⟩, _⟩ := h
    exact ⟨ts, rfl, fun x hx => List.mem_range.mp (pm.subset (List.mem_append_left _ hx))⟩
  · have hxl := px x (List.mem_of_getElem? hx)
    refine ho_post (ho_one (hs_for (xs := List.range 5) (en := fun i : Nat => .int i) (G := List Int) (is := [5]) (δx := fun _ lot i => bx (m + 10) [some (.dat (eN n)), some (.dat (eK kit)), some (.dat (eLi lot)), some (.dat (.int (x : Nat))), some (.dat (.int (i : Nat))), none, none, none])
      (fun _ lot => bx (m + 10) [some (.dat (eN n)), some (.dat (eK kit)), some (.dat (eLi lot)), some (.dat (.int (x : Nat))), none, none, none, none]) (fun _ lot => lot.length = n.cs.length) lot rfl PassesOwn.never pl (Les.refl _)
      (ei_range (n := 5) (G.no "range" (by decide)) ev_int (by omega)) (fun ps k g x hx _ => gn 5 sc69.nd) (fun ps2 t2 lot x2 hx2 pl => ?_))) fun σ' H' h => ?_
    · have hx' : x < lot.length := by rw [pl]; exact hxl
      have hd : (lot.map PyData.int)[x]? = some (.int lot[x]) := by rw [List.getElem?_map, List.getElem?_eq_getElem hx']; rfl
      have hix : atI (lot.map PyData.int) (x : Int) = some (.int lot[x]) := by
        unfold atI ixN
        rw [if_pos (by omega), if_pos (by rw [List.length_map]; omega), Int.toNat_natCast]
        exact hd
      generalize lot[x] = v at hd hix
      refine ho_cons (hs_set (d := eLi (lot.set x (v + 1))) 6 sc69.nd (Ev.cast (ef_cat (ef_cat (ef_take (k := x) (nv 3).lst (nv 4)).lst (Ev.lst (ev_lst (ea_cons (ev_add (ev_ixL (nv 3) (nv 4) hix) ev_int) ea_nil))) ?_).lst (ef_drop (k := x + 1) (nv 3).lst (Ev.cast (ev_add (nv 4) ev_int) (by congr 1))).lst ?_).ev ?_)) ?_
      · rw [List.length_take, List.length_map]
        simp only [List.length_cons, List.length_nil]
        omega
      · rw [List.length_append, List.length_take, List.length_drop, List.length_map]
        simp only [List.length_cons, List.length_nil]
        omega
      · unfold eLi
        rw [set_eq _ x _ (by rw [List.length_map]; exact hx'), List.map_set]
      refine ho_post (ho_one (hs_set (d := eLi (if goesB n kit (lot.set x (v + 1)) = true then lot.set x (v + 1) else lot)) 3 sc69.nd (ev_if (k := goesB n kit (lot.set x (v + 1))) (et_v (ev_call C4 hr (ea_cons (nv 1) (ea_cons (nv 2) (ea_cons (nv 6) ea_nil))) ⟨n, kit, lot.set x (v + 1), rfl, few, rfl⟩)) (fun e => Ev.cast (nv 6) (by rw [if_pos e])) fun e => Ev.cast (nv 3) (by rw [if_neg (by rw [e]; simp)])))) fun σ' H' h => ⟨_, ?_, Kn.les (.keep (.keep (.keep (.keep (.keep (.skip (.skip (.skip (.skip .nil))))))))) _ _ h⟩
      split
      · rw [List.length_set]; exact pl
      · exact pl
    · obtain ⟨lot', pl', hk⟩ := h
      exact ⟨lot', pl', Kn.les (.keep (.keep (.keep (.keep (.skip (.skip (.skip (.skip (.skip .nil))))))))) _ _ hk⟩
  refine ho_ex fun xs => ho_ex fun lot => ho_and fun _ => ho_and fun pl => ?_
  refine ho_cons (hsb_lc (α := Int) (β := Int) (xs := lot) (en := .int) (en2 := .int) (P := fun _ _ => True) (K := 1) (b := m + 10 - lot.length) (δt := fun x => [some (.dat (eN n)), some (.dat (eK kit)), some (.dat (eLi lot)), none, none, none, none, some (.dat (.int x))]) (is := [8]) 3 [("_law_bit", 8)] rfl sc69.nd (ei_L (nv 3)) (by omega) (by simp) (by simp) (fun s H Cc cl fp m x => gnB sc69.nd rfl ⟨Or.inl rfl, Or.inr rfl⟩) (fun s H Cc cl fp m x _ => ?_)) ?_
  · refine EvB.imp (evb_max2 (i := 0) (G.no "max" (by decide)) rfl ev_int (evb_op op_sub (evb (d := .int x) (nv 8)) (drawO (α := Int) (en := .int) (P0 := fun _ => True) C2 hr (EvB.imp (evb (d := .list ([0, 0, 0, 0, 1, 2].map .int)) (ev_lst (ea_cons ev_int (ea_cons ev_int (ea_cons ev_int (ea_cons ev_int (ea_cons ev_int (ea_cons ev_int ea_nil)))))))) fun r e => ⟨[0, 0, 0, 0, 1, 2], e, by simp, by simp, fun _ _ => trivial⟩) (by decide)) (P := isI) (fun d1 d2 h1 h2 => ?_))) fun r h => ?_
    · obtain ⟨t, rfl, _⟩ := h2
      subst h1
      exact ⟨.int (x - t), od_int fun _ => .int _, _, rfl⟩
    · obtain ⟨i, rfl⟩ := h
      exact ⟨i, rfl, trivial⟩
  refine ho_ex fun lot2 => ho_and fun al => ?_
  have l2 := al.len
  refine ho_cons (Mid := fun σ' Hx => ∃ lotx : List Int, Kn ⟨K, H, M, [b], []⟩ (bx (m + 9 - lot.length) [some (.dat (eN n)), some (.dat (eK kit)), some (.own (lotx.map .int)), none, none, none, none, none]) σ' Hx) (hsb_if (k1 := m + 9 - lot.length) (etb_cmp (op_eqD hr.units) (drawT (i := 9) C1 hr ev_int (by decide) (by decide) (by omega) (by decide)) (evb ev_int) (fun d1 d2 h1 h2 => ?_) (nomark _)) (ho_one ?_) (ho_nil ?_)) ?_
  · obtain ⟨i, rfl, _⟩ := h1
    subst h2
    exact ⟨_, od_eqD rfl rfl⟩
  · have h0 : 0 < lot2.length := by omega
    have hix : atI (lot2.map PyData.int) (0 : Int) = some (.int (lot2.getD 0 0)) := by
      cases lot2 with
      | nil => simp at h0
      | cons x r =>
        unfold atI ixN
        rw [if_pos (by omega), if_pos (by simp)]
        rfl
    refine hs_post (hs_oset (ds := lot2.map .int) (d := .int (lot2.getD 0 0 + 1)) 3 0 (ev_add (ev_ixS (no 3) ev_int hix) ev_int) ev_int (by rw [List.length_map]; exact h0)) fun σ' H' h => ⟨lot2.set 0 (lot2.getD 0 0 + 1), ?_⟩
    rw [List.map_set]
    exact h
  · exact fun σ' H' h => ⟨lot2, h⟩
  refine ho_ex fun lot3 => ho_freeze 3 rfl (ho_one (hsb_ret (B0 := b) (k1 := m) (EvB.imp (EvB.le (evb (d := .tuple (lot3.map .int)) (ev_tupL (G.no "tuple" (by decide)) (nv 3))) (by omega)) fun r e => ⟨lot3, e⟩) rfl))
end
end Kl
/-! W19: rules and orders for the web. -/
namespace Kl
open PySem PySem.Spec PyProof.Rows L2 PySem.W
open C8 (Cal pe_c)
section
variable {α : Type} {X : Cx} {C : Cfg} {δ : Dl} {k k1 n : Nat} {a b : Expr} {ds1 : List PyData} {P : PyData → Prop} {PS : List α → Prop} {en : α → PyData} {pos p : Pos}
theorem evb_cat (ha : Ev X C (bx k δ) a (.list ds1)) (hb : EvB X C k k1 δ b (fun r => ∃ xs : List α, r = .list (xs.map en) ∧ PS xs)) (hz : ∀ xs, PS xs → ds1.length + xs.length ≤ sizeLine) : EvB X C k k1 δ (.BinOp a .Add b pos) (fun r => ∃ xs : List α, r = .list (ds1 ++ xs.map en) ∧ PS xs) :=
  EvB.mk (pe_op op_cat ha hb) fun M σ H Q ok q => ⟨M, ok, fun v H1 sm s r1 => ⟨M, ok.mono s, fun y H2 r sm2 ok2 mv p2 r2 => by
    obtain ⟨zs, rfl, pz⟩ := p2
    have r1 := r1.mono mv.1
    cases r1 with
    | @lst l xs _ h1 r1 =>
      cases r2 with
      | @lst l2 ys _ h2 r2 =>
        refine ⟨l, l2, xs, ys, rfl, rfl, hid_le _ _ h1, hid_le _ _ h2, by rw [r1.length, r2.length, List.length_map]; exact hz zs pz, fun p hp sm3 => q _ _ _ sm3 (ok2.mono (same_new hp)) (((Mv.of ok s).trans mv).trans (.of ok2 (same_new hp))) ⟨zs, rfl, pz⟩ ?_⟩
        exact rp_newL ok2.trk hp (r1.append r2)⟩⟩
theorem evb_sorted (hr : Room n X.A) (hm : X.mg "sorted" = none) (ha : EvB X C k k1 δ a (fun r => ∃ xs : List α, r = .list (xs.map en) ∧ PS xs)) (hk : ∀ xs : List α, Srtb (xs.map en)) (hcl : ∀ xs : List α, plA (xs.map en) = true) (i : InjE en) (hg : Gl X "sorted" := by rfl) (he : starEach (a :: []) X.env = (false, eval a X.env) :: starEach [] X.env := by rfl) :
    EvB X C k k1 δ (.Call (.Name "sorted" p) [a] [] pos) (fun r => ∃ xs : List α, r = .list ((srt en xs).map en) ∧ PS xs) :=
  EvB.mk (pe_callB (cr_sortD hr.units) hg hm (by decide +kernel) (pa_cons ha pa_nil he) (he := he)) fun M σ H Q ok q => ⟨M, ok, fun v H1 r sm ok1 s p1 rv => by
    obtain ⟨xs, rfl, px⟩ := p1
    cases rv with
    | @lst l vs _ hl r =>
      have hl' := hid_le _ _ hl
      refine ⟨l, vs, xs.map en, rfl, SqL.of hl', (r.mono hid_le).dp (hcl xs), hk xs, fun zs p pz ez hp sm2 => q _ _ _ sm2 (ok1.mono (same_new hp)) (s.trans (.of ok1 (same_new hp))) ⟨xs, rfl, px⟩ ?_⟩
      rw [← sortD_srt i, ← ez]
      exact rp_newL ok1.trk hp (rps_of fun b hb => rps_zip r b (pz.mem_iff.mp hb))⟩
end
theorem inj_eL : InjE eL := fun a b h => by
  obtain ⟨a1, a2, a3, a4, a5⟩ := a
  obtain ⟨b1, b2, b3, b4, b5⟩ := b
  simp only [eL, keyToks, keyToksAll, List.cons_append, List.nil_append, List.cons.injEq, true_and, Sum.inl.injEq, Sum.inr.injEq, and_true] at h
  have e : ∀ x y : Str, x.cps.toList = y.cps.toList → x = y := fun x y h => inj_str x y (by simpa [keyToks] using h)
  obtain ⟨h1, h2, h3, h4, h5⟩ := h
  rw [e _ _ h1, e _ _ h2, e _ _ h3, h4, e _ _ h5]
theorem srtb_eL (l : List Ln) : Srtb (l.map eL) := by
  refine ⟨fun d h d' h' => ?_, .inl fun d h => ?_, fun d h => ?_⟩ <;> obtain ⟨x, _, rfl⟩ := List.mem_map.mp h
  · obtain ⟨y, _, rfl⟩ := List.mem_map.mp h'
    simp [eL, alike, alikeAll]
  · exact ⟨_, rfl⟩
  · simp [eL, PyData.depth, PyData.depthAll]
theorem lay_eL : ∀ l : List Ln, plA (l.map eL) = true
  | [] => rfl
  | x :: r => by simp [plA, plD, eL, lay_eL r]
theorem lay_str : ∀ l : List Str, plA (l.map .str) = true := lay_texts
end Kl
/-! W20: the web is drawn. -/
namespace Kl
open PySem PySem.Spec PyProof.Rows L2 PySem.W
open C8 (Cal pe_c)
def Snet : List PyData → PyData → Prop := fun ds r => ∃ n, r = eN n ∧ WfN n ∧ Pos0 n ∧ n.cs ≠ [] ∧ n.cs.length ≤ 9
def goodLn (l : Ln) : Prop := 0 ≤ l.2.2.2.1 ∧ PyData.strOk (keyL l) = true
theorem at_nat {ds : List PyData} {i : Nat} {d : PyData} (h : ds[i]? = some d) : atI ds (i : Int) = some d := by
  have hl : i < ds.length := (List.getElem?_eq_some_iff.mp h).1
  unfold atI ixN
  rw [if_pos (by omega), if_pos (by omega), Int.toNat_natCast]
  exact h
section
variable {P : Program} {w : World} {K : PySem.W.Frag} {mg : Str → Option Value} {base : Heap}
theorem sc67 : FnScope ["_law_box_here", "_law_spots_so", "_law_rings_so", "_law_ways_so", "_law_k", "_law_tag", "_law_ends_so", "_law_folk_so", "_law_found", "_law_stock_so", "_law_own"] ["_law_box_here"] (defScope (topS 67)) := ⟨rfl, rfl, rfl, by decide +kernel, rfl, by decide +kernel, by decide +kernel⟩
theorem c_web (G : Mg mg) (F : Df K mg "_law_web" ["_law_box_here"] (topS 67)) (C1 : Cal P w K mg base 1 "_law_take" (spB 1 1 Dtake Stake) []) (C2 : Cal P w K mg base 2 "_law_of" (spB 1 1 Dof Sof) []) (C3 : Cal P w K mg base 2 "_law_pick" (spB 2 9 Dpick Spick) []) : Cal P w K mg base 3 "_law_web" (spB 0 160 (fun _ => True) Snet) [] := by
  refine cal_ofB F sc67 rfl fun f cdv A outer s H E M b m hr ds hl hD => ?_
  have e0 : ds = [] := List.eq_nil_of_length_eq_zero hl
  subst e0
  have sz := sizeLine_eq
  have gi := G.no "int" (by decide)
  -- spots
  refine ho_cons (hsb_set (k := m + 160) (k1 := m + 150) 1 sc67.nd (drawP (gs := (["a", "b", "c"] : List Str)) (en := .str) (Pc := fun c => 2 ≤ c) C3 hr (ev_lst (ea_cons ev_str (ea_cons ev_str (ea_cons ev_str ea_nil)))) (evb_op op_add (evb ev_int) (evb_c1T call_int1 (gtB (EvB.imp (drawT (i := 3) (k1 := m + 159) C1 hr ev_int (by decide) (by decide) rfl (by decide)) fun r h => ⟨_, h.choose_spec.1⟩) (EvB.imp (evb ev_int) fun r h => ⟨_, h⟩)) gi boot_int (P := fun r => ∃ c : Nat, r = .int c) (fun d1 h => ?_)) (fun d1 d2 h1 h2 => ?_)) (by decide) (by decide))) ?_
  · obtain ⟨t, rfl⟩ := h
    exact ⟨.int (if t then 1 else 0), ⟨if t then 1 else 0, by cases t <;> rfl⟩, fun M H v Q tr r q => by cases r; exact .inr ⟨t, rfl, q _ H (Same.refl H) (.int _)⟩⟩
  · obtain ⟨c, rfl⟩ := h2
    subst h1
    exact ⟨.int (2 + c), od_int fun _ => .int _, 2 + c, by congr 1, by omega⟩
  refine ho_ex fun r => ho_and fun h => ?_
  obtain ⟨sp, rfl, ⟨rest, pm⟩, c, hc, len⟩ := h
  have len2 : 2 ≤ sp.length := by rw [len]; simp only [List.length_cons, List.length_nil]; omega
  have len3 : sp.length ≤ 3 := by rw [len]; simp only [List.length_cons, List.length_nil]; omega
  have spok : ∀ x ∈ sp, PyData.strOk x = true := fun x hx => by
    have := pm.subset (List.mem_append_left _ hx)
    simp only [List.mem_cons, List.not_mem_nil, or_false] at this
    rcases this with rfl | rfl | rfl <;> decide +kernel
  have spnd : sp.Nodup := by
    have : (sp ++ rest).Nodup := pm.nodup_iff.mpr (by decide +kernel)
    exact (List.nodup_append.mp this).1
  clear len hc pm
  -- rings
  refine ho_cons (hsb_par (k := m + 150) (k1 := m + 140) (ds := []) 2 3 sc67.nd (drawP (gs := (["blue", "k", "red", "zz"] : List Str)) (en := .str) (Pc := fun c => 2 ≤ c) C3 hr (ev_lst (ea_cons ev_str (ea_cons ev_str (ea_cons ev_str (ea_cons ev_str ea_nil))))) (drawO (α := Nat) (en := fun c => .int (c : Nat)) (P0 := fun c => 2 ≤ c) C2 hr (EvB.imp (evb (d := .list [.int 2, .int 3, .int 4, .int 4]) (ev_lst (ea_cons ev_int (ea_cons ev_int (ea_cons ev_int (ea_cons ev_int ea_nil)))))) fun r h => ⟨[2, 3, 4, 4], h, by simp, by simp, by decide⟩) (by decide)) (by decide) (by decide)) ef_nil) ?_
  refine ho_ex fun r => ho_and fun h => ?_
  obtain ⟨rg, rfl, ⟨rest, pm⟩, c, hc, len⟩ := h
  have rl1 : 1 ≤ rg.length := by rw [len]; simp only [List.length_cons, List.length_nil]; omega
  have rl4 : rg.length ≤ 4 := by rw [len]; simp only [List.length_cons, List.length_nil]; omega
  have rgok : ∀ x ∈ rg, PyData.strOk x = true := fun x hx => by
    have := pm.subset (List.mem_append_left _ hx)
    simp only [List.mem_cons, List.not_mem_nil, or_false] at this
    rcases this with rfl | rfl | rfl | rfl <;> decide +kernel
  clear len hc pm
  -- ways
  refine ho_cons (hsb_for (k := m + 140) (k1 := m + 130) (G := List Ln) (en := fun p : Nat × Str => PyData.tuple [.int (p.1 : Nat), .str p.2]) (PS := fun ys => ∃ xs : List Str, ys = enumL xs ∧ 3 ≤ xs.length ∧ xs.length ≤ 5) (is := [4, 5]) (δx := fun _ k g p => bx (m + 130 - 20 * k) [some (.dat (.list (sp.map .str))), some (.dat (.list (rg.map .str))), some (.own (g.map eL)), some (.dat (.int (p.1 : Nat))), some (.dat (.str p.2)), none, none, none, none, none])
    (fun _ k g => bx (m + 130 - 20 * k) [some (.dat (.list (sp.map .str))), some (.dat (.list (rg.map .str))), some (.own (g.map eL)), none, none, none, none, none, none, none]) (fun _ k g => g.length = k ∧ ∀ l ∈ g, goodLn l) [] rfl PassesOwn.never (fun _ _ => ⟨rfl, by simp⟩) (fun _ _ => Les.refl _)
    (eib_enum (en := .str) (G.no "enumerate" (by decide)) (EvB.imp (drawP (gs := (["a", "l", "line", "m", "n"] : List Str)) (en := .str) (Pc := fun c => 3 ≤ c) C3 hr (ev_lst (ea_cons ev_str (ea_cons ev_str (ea_cons ev_str (ea_cons ev_str (ea_cons ev_str ea_nil)))))) (evb_op op_add (evb ev_int) (drawT (i := 3) (k1 := m + 139) C1 hr ev_int (by decide) (by decide) rfl (by decide)) (fun d1 d2 h1 h2 => ?_)) (by decide) (by decide)) fun r h => ?_))
    (fun ps xs k g p _ hx _ => gn2 (i := 4) (j := 5) rfl (fun δ d => gn 4 sc67.nd) (fun δ d => gn 5 sc67.nd)) (fun ps xs k g p px hx pg => ?_)) ?_
  · obtain ⟨c, rfl, _⟩ := h2
    subst h1
    exact ⟨.int (3 + c), od_int fun _ => .int _, 3 + c, by congr 1, by omega⟩
  · obtain ⟨ts, rfl, _, c, hc, len⟩ := h
    exact ⟨ts, rfl, by rw [len]; simp only [List.length_cons, List.length_nil]; omega, by rw [len]; simp only [List.length_cons, List.length_nil]; omega⟩
  · obtain ⟨xs', rfl, x3, x5⟩ := px
    have hk : k < 5 := by
      have := (List.getElem?_eq_some_iff.mp hx).1
      unfold enumL at this
      rw [List.length_map, List.length_zipIdx] at this
      omega
    obtain ⟨pg, gg⟩ := pg
    have eB : m + 130 - 20 * k = (m + 130 - 20 * (k + 1)) + 20 := by omega
    rw [eB]
    generalize hB : m + 130 - 20 * (k + 1) = B
    have ld : (sp.drop 1).length ≤ 9 := by rw [List.length_drop]; omega
    refine ho_cons (hsb_set (k := B + 20) (k1 := B + 11) (P := fun r => ∃ es : List Str, r = .list (es.map .str) ∧ es.length = 2) 6 sc67.nd (EvB.imp (evb_cat (en := PyData.str) (ef_take (k := 1) (nv 1).lst ev_int).ev (EvB.imp (drawP (gs := sp.drop 1) (en := .str) (Pc := fun c => c = 1) C3 hr (Ev.cast (ef_drop (k := 1) (nv 1).lst ev_int).ev (by rw [List.map_drop])) (EvB.imp (evb (d := .int 1) ev_int) fun r h => ⟨1, h, rfl⟩) ld (by decide)) fun r h => ?_) (PS := fun xs : List Str => xs.length = 1) (fun xs h => ?_)) fun r h => ?_)) ?_
    · obtain ⟨ts, rfl, _, c, rfl, len⟩ := h
      refine ⟨ts, rfl, ?_⟩
      rw [len, List.length_drop]
      omega
    · rw [List.length_take, List.length_map]
      omega
    · obtain ⟨ts, rfl, len⟩ := h
      refine ⟨sp.take 1 ++ ts, by rw [List.map_append, List.map_take], ?_⟩
      rw [List.length_append, List.length_take]
      omega
    refine ho_ex fun r => ho_and fun h => ?_
    obtain ⟨es, rfl, el⟩ := h
    refine ho_cons (hsb_set (k := B + 11) (k1 := B + 1) (P := fun r => ∃ es : List Str, r = .list (es.map .str) ∧ es.length = 2) 6 sc67.nd (evb_if (hc := gtBt (EvB.imp (drawT (i := 5) (k1 := B + 10) C1 hr ev_int (by decide) (by decide) rfl (by decide)) fun r h => ⟨_, h.choose_spec.1⟩) (EvB.imp (evb ev_int) fun r h => ⟨_, h⟩)) (EvB.imp (EvB.le (evb (d := .list (es.map .str)) (nv 6)) (by omega)) fun r h => ⟨es, h, el⟩) (EvB.imp (drawP (gs := sp) (en := .str) (Pc := fun c => c = 2) C3 hr (nv 1) (EvB.imp (evb (d := .int 2) ev_int) fun r h => ⟨2, h, rfl⟩) (by omega) (by decide)) fun r h => ?_))) ?_
    · obtain ⟨ts, rfl, _, c, rfl, len⟩ := h
      exact ⟨ts, rfl, by rw [len]; omega⟩
    refine ho_ex fun r => ho_and fun h => ?_
    obtain ⟨es, rfl, el⟩ := h
    have hmod : p.1 % rg.length < rg.length := Nat.mod_lt _ rl1
    have a0 : atI (es.map PyData.str) (0 : Int) = some (.str (es.getD 0 "")) := at_nat (i := 0) (by rw [List.getElem?_map, List.getD_eq_getElem?_getD, List.getElem?_eq_getElem (by omega)]; rfl)
    have a1 : atI (es.map PyData.str) (1 : Int) = some (.str (es.getD 1 "")) := at_nat (i := 1) (by rw [List.getElem?_map, List.getD_eq_getElem?_getD, List.getElem?_eq_getElem (by omega)]; rfl)
    have a2 : atI (rg.map PyData.str) ((p.1 % rg.length : Nat) : Int) = some (.str (rg.getD (p.1 % rg.length) "")) := at_nat (by rw [List.getElem?_map, List.getD_eq_getElem?_getD, List.getElem?_eq_getElem hmod]; rfl)
    have rk : PyData.strOk (rg.getD (p.1 % rg.length) "") = true := by
      rw [List.getD_eq_getElem?_getD, List.getElem?_eq_getElem hmod]
      exact rgok _ (List.getElem_mem hmod)
    generalize es.getD 0 "" = en0 at a0
    generalize es.getD 1 "" = en1 at a1
    generalize rg.getD (p.1 % rg.length) "" = rng at a2 rk
    refine ho_post (ho_one (hsb_app (k := B + 1) (k1 := B) (fs := g.map eL) (P := fun r => ∃ l, r = eL l ∧ goodLn l) 3 (EvB.imp (evb_tup (eab_cons (evb (d := .str p.2) (nv 5)) (eab_cons (evb (d := .str en0) (ev_ixL (nv 6) ev_int a0)) (eab_cons (evb (d := .str en1) (ev_ixL (nv 6) ev_int a1)) (eab_cons (drawO (α := Int) (en := .int) (P0 := fun t => 0 ≤ t) C2 hr (EvB.imp (evb (d := .list ([0, 1, 1, 1, 2, 3].map .int)) (ev_lst (ea_cons ev_int (ea_cons ev_int (ea_cons ev_int (ea_cons ev_int (ea_cons ev_int (ea_cons ev_int ea_nil)))))))) fun r h => ⟨[0, 1, 1, 1, 2, 3], h, by simp, by simp, by decide⟩) (by decide)) (eab_cons (evb (d := .str rng) (ev_ixL (nv 2) (Ev.cast (ev_mod (nv 4) (ev_len (ds := rg.map .str) (G.no "len" (by decide)) (nv 2).seqL) (by rw [List.length_map]; omega)) (by rw [List.length_map]; rfl)) a2)) eab_nil))))) (fun rs h => ?_)) fun r h => ?_) (by rw [List.length_map]; omega))) fun σ' H' h => ?_
    · obtain ⟨_, _, rfl, _, _, _, rfl, _, _, _, rfl, _, _, _, rfl, _, _, _, rfl, _, rfl⟩ := h
      simp only [List.length_cons, List.length_nil]
      omega
    · obtain ⟨rs, rfl, _, _, rfl, rfl, _, _, rfl, rfl, _, _, rfl, rfl, _, _, rfl, ⟨t, rfl, t0⟩, _, _, rfl, rfl, rfl⟩ := h
      exact ⟨(p.2, en0, en1, t, rng), rfl, t0, rk⟩
    · obtain ⟨r, ⟨l, rfl, hl⟩, hk⟩ := h
      refine ⟨g ++ [l], ⟨by rw [List.length_append, pg]; rfl, fun x hx => (List.mem_append.mp hx).elim (gg x) fun z => by rw [List.mem_singleton.mp z]; exact hl⟩, ?_⟩
      rw [List.map_append]
      exact Kn.les (.keep (.keep (.keep (.keep (.skip (.skip (.skip (.skip (.skip (.skip (.skip .nil))))))))))) _ _ hk
  refine ho_ex fun ys => ho_ex fun g => ho_and fun px => ho_and fun pg => ?_
  obtain ⟨xs', rfl, x3, x5⟩ := px
  obtain ⟨gl, gg⟩ := pg
  have yl : (enumL xs').length = xs'.length := by unfold enumL; rw [List.length_map, List.length_zipIdx]
  rw [yl] at gl ⊢
  refine ho_pre ?_ (kn_close (P' := Bud (m + 30)) fun _ _ _ h => h.le (by omega))
  refine ho_freeze 3 rfl ?_
  -- folk
  refine ho_cons (hsb_par (k := m + 30) (k1 := m + 20) (ds := []) 7 8 sc67.nd (evb_sorted (en := PyData.str) (PS := fun ts : List Str => 1 ≤ ts.length ∧ ts.length ≤ 3) hr (G.no "sorted" (by decide)) (EvB.imp (drawP (gs := (["a", "p", "q", "zoe"] : List Str)) (en := .str) (Pc := fun c => 1 ≤ c ∧ c ≤ 3) C3 hr (ev_lst (ea_cons ev_str (ea_cons ev_str (ea_cons ev_str (ea_cons ev_str ea_nil))))) (evb_op op_add (evb ev_int) (drawT (i := 3) (k1 := m + 29) C1 hr ev_int (by decide) (by decide) rfl (by decide)) (fun d1 d2 h1 h2 => ?_)) (by decide) (by decide)) fun r h => ?_) srtb_str lay_texts inj_str) ef_nil) ?_
  · obtain ⟨c, rfl, c3⟩ := h2
    subst h1
    exact ⟨.int (1 + c), od_int fun _ => .int _, 1 + c, by congr 1, by omega, by omega⟩
  · obtain ⟨ts, rfl, _, c, ⟨hc1, hc2⟩, len⟩ := h
    exact ⟨ts, rfl, by rw [len]; simp only [List.length_cons, List.length_nil]; omega, by rw [len]; simp only [List.length_cons, List.length_nil]; omega⟩
  refine ho_ex fun r => ho_and fun h => ?_
  obtain ⟨fk0, rfl, fk1, fk3⟩ := h
  rw [← len_srt (enc := PyData.str)] at fk1 fk3
  generalize srt PyData.str fk0 = fk at fk1 fk3
  -- stock
  have ls : (srt PyData.str sp).length ≤ 3 := by rw [len_srt]; exact len3
  refine ho_cons (hsb_lc (α := Str) (β := Str × Int) (xs := srt PyData.str sp) (en := .str) (en2 := eY) (P := fun x y => y.1 = x) (K := 1) (b := m + 20 - (srt PyData.str sp).length) (δt := fun x => [some (.dat (.list (sp.map .str))), some (.dat (.list (rg.map .str))), some (.dat (.list (g.map eL))), none, none, none, some (.dat (.list (fk.map .str))), some (.own []), none, some (.dat (.str x))]) (is := [10]) 9 [("_law_own", 10)] rfl sc67.nd (ei_L (Ev.cast (ef_sorted hr (G.no "sorted" (by decide)) (nv 1).lst (srtb_str sp) (lay_texts sp)).ev (by rw [sortD_srt inj_str]))) (by omega) (by simp) (by simp) (fun s H Cc cl fp m x => gnB sc67.nd rfl ⟨Or.inl rfl, Or.inr rfl⟩) (fun s H Cc cl fp m x hx => ?_)) ?_
  · have xok : PyData.strOk x = true := spok x (mem_srt.mp hx)
    have a0 : atI (sp.map PyData.str) (0 : Int) = some (.str (sp.getD 0 "")) := at_nat (i := 0) (by rw [List.getElem?_map, List.getD_eq_getElem?_getD, List.getElem?_eq_getElem (by omega)]; rfl)
    have s0 : PyData.strOk (sp.getD 0 "") = true := by
      rw [List.getD_eq_getElem?_getD, List.getElem?_eq_getElem (by omega)]
      exact spok _ (List.getElem_mem (by omega))
    generalize sp.getD 0 "" = sp0 at a0 s0
    refine EvB.imp (evb_tup (eab_cons (evb (d := .str x) (nv 10)) (eab_cons (drawO (α := Int) (en := .int) (P0 := fun _ => True) C2 hr (EvB.imp (evb (d := .list ((if PyData.eqv (.str x) (.str sp0) = true then [4, 5, 6] else [0, 0, 0, 1]).map .int)) (ev_if (k := PyData.eqv (.str x) (.str sp0)) (et_eqD hr (nv 10) (ev_ixL (nv 1) ev_int a0) (flat_shaped (d := .str x) xok) (flat_shaped (d := .str sp0) s0)) (fun e => ?_) (fun e => ?_))) fun r h => ⟨_, h, ?_, ?_, fun _ _ => trivial⟩) (by decide)) eab_nil)) (fun rs h => ?_)) fun r h => ?_
    · exact Ev.cast (ev_lst (ea_cons ev_int (ea_cons ev_int (ea_cons ev_int ea_nil)))) (by rw [if_pos e]; rfl)
    · exact Ev.cast (ev_lst (ea_cons ev_int (ea_cons ev_int (ea_cons ev_int (ea_cons ev_int ea_nil))))) (by rw [if_neg (by rw [e]; simp)]; rfl)
    · split <;> simp
    · split <;> simp
    · obtain ⟨_, _, rfl, _, _, _, rfl, _, rfl⟩ := h
      simp only [List.length_cons, List.length_nil]
      omega
    · obtain ⟨rs, rfl, _, _, rfl, rfl, _, _, rfl, ⟨t, rfl, _⟩, rfl⟩ := h
      exact ⟨(x, t), rfl, rfl⟩
  refine ho_ex fun st => ho_and fun al => ?_
  have sy : st.map (fun y => y.1) = srt PyData.str sp := by
    have : ∀ {xs : List Str} {ys : List (Str × Int)}, All2 (fun x y => y.1 = x) xs ys → ys.map (fun y => y.1) = xs := fun h => by
      induction h with
      | nil => rfl
      | cons p _ ih => rw [List.map_cons, ih, p]
    exact this al
  refine ho_pre ?_ (kn_close (P' := Bud (m + 17)) fun _ _ _ h => h.le (by omega))
  -- found
  refine ho_cons (hs_for (xs := fk) (en := .str) (G := List (Str × Str)) (is := [5]) (δx := fun k cs t => bx (m + 17 - 2 * k) [some (.dat (.list (sp.map .str))), some (.dat (.list (rg.map .str))), some (.dat (.list (g.map eL))), none, some (.dat (.str t)), none, some (.dat (.list (fk.map .str))), some (.own (cs.map eC)), some (.own (st.map eY)), none])
    (fun k cs => bx (m + 17 - 2 * k) [some (.dat (.list (sp.map .str))), some (.dat (.list (rg.map .str))), some (.dat (.list (g.map eL))), none, none, none, some (.dat (.list (fk.map .str))), some (.own (cs.map eC)), some (.own (st.map eY)), none]) (fun k cs => cs.length = k) [] rfl PassesOwn.never rfl (Les.refl _)
    (ei_L (nv 7)) (fun ps k cs t hx _ => gn 5 sc67.nd) (fun ps k cs t hx pc => ?_)) ?_
  · have hk : k < 3 := by have := (List.getElem?_eq_some_iff.mp hx).1; omega
    have eB : m + 17 - 2 * k = (m + 17 - 2 * (k + 1)) + 2 := by omega
    rw [eB]
    generalize hB : m + 17 - 2 * (k + 1) = B
    refine ho_post (ho_one (hsb_app (k := B + 2) (k1 := B) (fs := cs.map eC) (P := fun r => ∃ y, r = eC y) 8 (EvB.imp (evb_tup (eab_cons (evb (d := .str t) (nv 5)) (eab_cons (evb_if (P := fun r => ∃ y : Str, r = .str y) (hc := gtBt (EvB.imp (drawT (i := 8) (k1 := B + 1) C1 hr ev_int (by decide) (by decide) rfl (by decide)) fun r h => ⟨_, h.choose_spec.1⟩) (EvB.imp (evb ev_int) fun r h => ⟨_, h⟩)) (evb_ix (drawO (α := Ln) (en := eL) (P0 := fun _ => True) C2 hr (EvB.imp (evb (d := .list (g.map eL)) (nv 3)) fun r h => ⟨g, h, by intro e; rw [e] at gl; simp at gl; omega, by omega, fun _ _ => trivial⟩) (by decide)) (evb (d := .int 2) ev_int) (fun d1 d2 h1 h2 => ?_)) (EvB.imp (drawO (α := Str) (en := .str) (P0 := fun _ => True) C2 hr (EvB.imp (evb (d := .list (sp.map .str)) (nv 1)) fun r h => ⟨sp, h, by intro e; rw [e] at len2; simp at len2, by omega, fun _ _ => trivial⟩) (by decide)) fun r h => ⟨_, h.choose_spec.1⟩)) eab_nil)) (fun rs h => ?_)) fun r h => ?_) (by rw [List.length_map]; omega))) fun σ' H' h => ?_
    · obtain ⟨l, rfl, _⟩ := h1
      subst h2
      exact ⟨true, _, 2, .str l.2.2.1, rfl, rfl, rfl, _, rfl⟩
    · obtain ⟨_, _, rfl, _, _, _, rfl, _, rfl⟩ := h
      simp only [List.length_cons, List.length_nil]
      omega
    · obtain ⟨rs, rfl, _, _, rfl, rfl, _, _, rfl, ⟨y, rfl⟩, rfl⟩ := h
      exact ⟨(t, y), rfl⟩
    · obtain ⟨r, ⟨y, rfl⟩, hk⟩ := h
      refine ⟨cs ++ [y], by rw [List.length_append, pc]; rfl, ?_⟩
      rw [List.map_append]
      exact Kn.les (.keep (.keep (.keep (.keep (.keep (.skip (.keep (.keep (.keep (.keep (.keep .nil))))))))))) _ _ hk
  refine ho_ex fun cs => ho_and fun cl => ?_
  refine ho_freeze 8 rfl (ho_freeze 9 rfl ?_)
  refine ho_one (hsb_ret (B0 := b) (k1 := m) (EvB.imp (EvB.le (evb (d := eN ⟨st, srt eL g, cs⟩) (ev_tup (ea_cons (ev_tupL (G.no "tuple" (by decide)) (nv 9)) (ea_cons (ev_tupL (G.no "tuple" (by decide)) (Ev.cast (ef_sorted hr (G.no "sorted" (by decide)) (nv 3).lst (srtb_eL g) (lay_eL g)).ev (by rw [sortD_srt inj_eL]))) (ea_cons (ev_tupL (G.no "tuple" (by decide)) (nv 8)) ea_nil))))) (by omega)) fun r e => ?_) rfl)
  refine ⟨⟨st, srt eL g, cs⟩, e, ⟨?_, ?_, ?_, fun l hl => (gg l (mem_srt.mp hl)).2⟩, fun l hl => (gg l (mem_srt.mp hl)).1, ?_, ?_⟩
  · show (st.map fun y => y.1).Nodup
    rw [sy]
    exact srt_nd.mpr spnd
  · show (st.map fun y => y.1).length ≤ 8
    rw [sy]
    omega
  · show (srt eL g).length ≤ 5
    rw [len_srt]
    omega
  · intro e
    have e : cs = [] := e
    rw [e] at cl
    simp at cl
    omega
  · show cs.length ≤ 9
    omega
end
end Kl
/-! W21: dicts with texts as keys and data as values. -/
namespace Kl
open PySem PySem.Spec PyProof.Rows L2 PySem.W
open C8 (Cal pe_c)
theorem tb_get : ∀ {ks : List Str} {vs : List V} {j : Nat} {t : Str} {v : V}, ks.Nodup → ks[j]? = some t → vs[j]? = some v → valV (tb ks vs) (.inr t) = some v
  | [], _, _, _, _, _, h, _ => by simp at h
  | _ :: _, [], _, _, _, _, _, h => by simp at h
  | k :: ks, u :: vs, 0, t, v, _, h1, h2 => by
    have e1 : k = t := by simpa using h1
    have e2 : u = v := by simpa using h2
    subst e1 e2
    exact valV_pos (p := (Sum.inr k, u)) rfl
  | k :: ks, u :: vs, j + 1, t, v, nd, h1, h2 => by
    obtain ⟨n1, n2⟩ := List.nodup_cons.mp nd
    have h1 : ks[j]? = some t := by simpa using h1
    have ne : ¬ (Sum.inr k : Key) = .inr t := fun e => n1 (by
      have : k = t := by simpa using e
      rw [this]
      exact List.mem_of_getElem? h1)
    show valV ((Sum.inr k, u) :: tb ks vs) (.inr t) = some v
    rw [valV_neg ne]
    exact tb_get n2 h1 (by simpa using h2)
theorem tb_keys {ks : List Str} {vs : List V} (h : vs.length = ks.length) {p : Key × V} (hp : p ∈ tb ks vs) : ∃ k ∈ ks, p.1 = .inr k := by
  obtain ⟨q, hq, rfl⟩ := List.mem_map.mp hp
  exact ⟨q.1, (List.of_mem_zip hq).1, rfl⟩
theorem tb_set : ∀ {ks : List Str} {vs : List V} {j : Nat} {t : Str} {v : V}, ks.Nodup → vs.length = ks.length → ks[j]? = some t → ((tb ks vs).map fun kv => if kv.1 = Sum.inr t then (kv.1, v) else kv) = tb ks (vs.set j v)
  | [], _, _, _, _, _, _, h => by simp at h
  | _ :: _, [], _, _, _, _, h, _ => by simp at h
  | k :: ks, u :: vs, 0, t, v, nd, hl, h1 => by
    obtain ⟨n1, n2⟩ := List.nodup_cons.mp nd
    have e1 : k = t := by simpa using h1
    subst e1
    show (if (Sum.inr k : Key) = .inr k then ((Sum.inr k : Key), v) else (.inr k, u)) :: ((tb ks vs).map fun kv => if kv.1 = Sum.inr k then (kv.1, v) else kv) = (.inr k, v) :: tb ks vs
    rw [if_pos rfl]
    congr 1
    conv => rhs; rw [← List.map_id (tb ks vs)]
    refine List.map_congr_left fun p hp => ?_
    obtain ⟨k', hk, e⟩ := tb_keys (by simpa using hl) hp
    rw [if_neg]
    · rfl
    · rw [e]
      intro z
      exact n1 (by have : k' = k := by simpa using z
                   rw [← this]; exact hk)
  | k :: ks, u :: vs, j + 1, t, v, nd, hl, h1 => by
    obtain ⟨n1, n2⟩ := List.nodup_cons.mp nd
    have h1 : ks[j]? = some t := by simpa using h1
    have ne : ¬ (Sum.inr k : Key) = .inr t := fun e => n1 (by
      have : k = t := by simpa using e
      rw [this]
      exact List.mem_of_getElem? h1)
    show (if (Sum.inr k : Key) = .inr t then ((Sum.inr k : Key), v) else (.inr k, u)) :: ((tb ks vs).map fun kv => if kv.1 = Sum.inr t then (kv.1, v) else kv) = (.inr k, u) :: tb ks (vs.set j v)
    rw [if_neg ne, tb_set n2 (by simpa using hl) h1]
theorem tb_put {ks : List Str} {vs : List V} {j : Nat} {t : Str} {v : V} (nd : ks.Nodup) (hl : vs.length = ks.length) (h1 : ks[j]? = some t) : putK (tb ks vs) (.inr t) v = tb ks (vs.set j v) := by
  have hj : j < ks.length := (List.getElem?_eq_some_iff.mp h1).1
  unfold putK
  rw [if_pos, tb_set nd hl h1]
  rw [List.any_eq_true]
  refine ⟨(.inr t, vs[j]'(by omega)), List.mem_map.mpr ⟨(t, vs[j]'(by omega)), ?_, rfl⟩, by simp⟩
  refine List.mem_iff_getElem?.mpr ⟨j, ?_⟩
  rw [List.getElem?_zip_eq_some]
  exact ⟨h1, List.getElem?_eq_getElem _⟩
theorem tb_snoc {ks : List Str} {vs : List V} (h : vs.length = ks.length) (k : Str) (v : V) : tb (ks ++ [k]) (vs ++ [v]) = tb ks vs ++ [(.inr k, v)] := by
  unfold tb
  rw [List.zip_append h.symm, List.map_append]
  rfl
theorem merge_tb : ∀ {ks2 : List Str} {vs2 : List V} {ks : List Str} {vs : List V}, vs.length = ks.length → vs2.length = ks2.length → (ks ++ ks2).Nodup → mergeK (tb ks vs) (tb ks2 vs2) = tb (ks ++ ks2) (vs ++ vs2)
  | [], vs2, ks, vs, _, h2, _ => by
    have e : vs2 = [] := List.eq_nil_of_length_eq_zero (by simpa using h2)
    subst e
    rw [List.append_nil, List.append_nil]
    rfl
  | k :: ks2, [], _, _, _, h2, _ => by simp at h2
  | k :: ks2, v :: vs2, ks, vs, h1, h2, nd => by
    have ne : k ∉ ks := fun z => (List.nodup_append.mp nd).2.2 k z k List.mem_cons_self rfl
    have e : putK (tb ks vs) (.inr k) v = tb (ks ++ [k]) (vs ++ [v]) := by
      unfold putK
      rw [if_neg, tb_snoc h1]
      rw [List.any_eq_true]
      rintro ⟨p, hp, z⟩
      obtain ⟨k', hk, e⟩ := tb_keys h1 hp
      rw [e] at z
      have : k' = k := by simpa using z
      exact ne (by rw [← this]; exact hk)
    show mergeK (putK (tb ks vs) (.inr k) v) (tb ks2 vs2) = _
    rw [e, merge_tb (by rw [List.length_append, List.length_append, h1]; rfl) (by simpa using h2) (by rw [List.append_assoc]; exact nd), List.append_assoc, List.append_assoc]
    rfl
section
variable {X : Cx} {C : Cfg} {δ : Dl} {a b e : Expr} {d : PyData} {ks : List Str} {ds : List PyData} {pos p : Pos} {Φ : VK} {n i j : Nat} {t : Str} {e1 : Ent}
theorem hs_setE (i : Nat) {x : Str} {pos' : Pos} (hN : X.N.Nodup) (he : EvE X C δ e e1) (hi : X.N[i]? = some x := by rfl) (hx : Loc X.env.scope x := by first | exact Or.inl rfl | exact Or.inr rfl)
    (hs : swapsWith e (some (.Name x pos')) pos.line X.env = pure false := by rfl) (hf : X.fn x = true ∨ X.env.scope.names.lookup x = some .local := by first | exact .inl rfl | exact .inr rfl | assumption) :
    Hs X (Kn C δ) (.Assign [.Name x pos'] e pos) (Kn C (δ.set i (some e1))) Φ :=
  (ps_set hN hi hx he hs hf).imp fun D σ H ⟨⟨M, ok⟩, q, _⟩ => ⟨M, ok, fun v H' sm s h => by
    obtain ⟨M1, _, ok1, p1, _⟩ := pend_new ok s h
    exact q _ _ ⟨M1, ok1.putE p1⟩⟩
/-- table[key] -/
theorem ev_tget (i j : Nat) {x : Str} {xp : Pos} (hr : Room n X.A) (hb : Ev X C δ b (.str t)) (nd : ks.Nodup) (hk : ks[j]? = some t) (hd : ds[j]? = some d) (hs : NoSl b := by intro _ _; rfl) (hN : X.N[i]? = some x := by rfl) (hδ : δ[i]? = some (some (.tbl ks ds)) := by rfl) (hv : Vis X.env.scope x := by first | exact Or.inl rfl | exact Or.inr (Or.inl rfl) | exact Or.inr (Or.inr rfl))
    (hdb : (x == ("__debug__" : Str)) = false := by decide) (hcd : (x == ("__classdict__" : Str)) = false := by decide) : Ev X C δ (.Subscript (.Name x xp) b pos) d :=
  Ev.mk (pe_dget (by have := hr.units; omega) (pe_var hN hv hdb hcd) hb hs) fun M σ H Q ok q => by
    obtain ⟨v, h1, l, xs, rfl, e2, e3, e4, e5⟩ := ok.val i _ hδ
    refine ⟨.ref l, h1, M, ok, fun y H1 sm s r => ?_⟩
    cases r
    obtain ⟨u, hu, ru⟩ := (e5.mono (hid_same s)).get hd
    refine ⟨l, u, rfl, ?_, fun sm2 => q u H1 sm2 s ru⟩
    have g := DGet.k (k := (.inr t : Key)) (s _ _ e4)
    rw [tb_get nd hk hu] at g
    exact g
end
end Kl
/-! W22: tables are written. -/
namespace Kl
open PySem PySem.Spec PyProof.Rows L2 PySem.W
open C8 (Cal pe_c)
theorem OkM.writeT {M : List Addr} {σ : L2.St} {H : Hp} {i : Nat} {l : Addr} {ys : List V} {ds2 : List PyData} {δ : Dl} {C : Cfg} {ks : List Str} {ds : List PyData} (ok : OkM C M δ σ H) (h : δ[i]? = some (some (.tbl ks ds))) (hv : σ[i]? = some (some (.ref l))) (hl : l ∈ M) (h0 : C.H0 l = none) (rr : Rps (hid M H) ys ds2) : OkM C M (δ.set i (some (.tbl ks ds2))) σ (upd H l (.dK (tb ks ys))) := by
  refine ⟨fun a o h1 h2 => ?_, ok.t0, ok.b0, ok.sub, fun m hm => ?_, fun p hp => by rw [hid_in hl]; exact ok.pin p hp, by rw [List.length_set]; exact ok.len, fun j e q => ?_, fun j k u u' w h1 h2 h3 h4 h5 h6 => ?_⟩
  · rw [upd_ne (fun z => by rw [z, h0] at h2; cases h2)]
    exact ok.fr a o h1 h2
  · by_cases e : m = l
    · rw [e, upd_same]; exact ⟨_, rfl, rfl⟩
    · rw [upd_ne e]; exact ok.trk m hm
  · have sh : hid M (upd H l (.dK (tb ks ys))) = hid M H := hid_in hl
    rcases get_set_eq q with ⟨e1, e2, _⟩ | ⟨e1, e2⟩
    · cases e2
      subst e1
      exact ⟨.ref l, hv, l, ys, rfl, hl, h0, upd_same, by rw [sh]; exact rr⟩
    · obtain ⟨w, h1, h2⟩ := ok.val j e e2
      refine ⟨w, h1, ?_⟩
      have ne : isOwn e = true → w ≠ .ref l := fun ho z => e1 (ok.apart j i e (.tbl ks ds) w e2 h ho rfl h1 (by rw [z]; exact hv))
      cases e with
      | dat d => exact (by rw [sh]; exact h2 : Rp (hid M (upd H l (.dK (tb ks ys)))) w d)
      | own ds' =>
        obtain ⟨l', xs', rfl, q2, q3, q4, q5⟩ := h2
        exact ⟨l', xs', rfl, q2, q3, by rw [upd_ne (fun z => ne rfl (by rw [z]))]; exact q4, by rw [sh]; exact q5⟩
      | tbl ks0 ds' =>
        obtain ⟨l', xs', rfl, q2, q3, q4, q5⟩ := h2
        exact ⟨l', xs', rfl, q2, q3, by rw [upd_ne (fun z => ne rfl (by rw [z]))]; exact q4, by rw [sh]; exact q5⟩
      | dct L =>
        obtain ⟨l', rfl, q2, q3, q4, q5⟩ := h2
        exact ⟨l', rfl, q2, q3, q4, by rw [upd_ne (fun z => ne rfl (by rw [z]))]; exact q5⟩
      | box n =>
        obtain ⟨l', rfl, q2, q3, g, s, c, q4, q5⟩ := h2
        exact ⟨l', rfl, q2, q3, g, s, c, by rw [upd_ne (fun z => ne rfl (by rw [z]))]; exact q4, q5⟩
      | scr ns =>
        obtain ⟨l', q1, q2⟩ := h2
        exact ⟨l', q1, by rw [sh]; exact q2⟩
  · have z : ∀ (m : Nat) u, (δ.set i (some (.tbl ks ds2)))[m]? = some (some u) → isOwn u = true → ∃ u, δ[m]? = some (some u) ∧ isOwn u = true := fun m u q o => by
      rcases get_set_eq q with ⟨e1, e2, _⟩ | ⟨e1, e2⟩
      · rw [e1]; exact ⟨_, h, rfl⟩
      · exact ⟨u, e2, o⟩
    obtain ⟨u1, z1, z2⟩ := z j u h1 h3
    obtain ⟨u2, z3, z4⟩ := z k u' h2 h4
    exact ok.apart j k u1 u2 w z1 z3 z2 z4 h5 h6

section
variable {X : Cx} {C : Cfg} {δ : Dl} {a b e : Expr} {d : PyData} {ks : List Str} {ds : List PyData} {pos p : Pos} {Φ : VK} {n i j : Nat} {t : Str}
theorem hs_tput (i j : Nat) {x : Str} {xp sp : Pos} (hr : Room n X.A) (he : Ev X C δ e d) (hk : Ev X C δ b (.str t)) (nd : ks.Nodup) (hj : ks[j]? = some t) (hl : ds.length = ks.length) (hz : ks.length < sizeLine) (hN : X.N[i]? = some x := by rfl) (hδ : δ[i]? = some (some (.tbl ks ds)) := by rfl) (hv : Vis X.env.scope x := by first | exact Or.inl rfl | exact Or.inr (Or.inl rfl) | exact Or.inr (Or.inr rfl))
    (hdb : (x == ("__debug__" : Str)) = false := by decide) (hcd : (x == ("__classdict__" : Str)) = false := by decide) (hs : swapsWith e (some (.Subscript (.Name x xp) b sp)) pos.line X.env = pure false := by rfl) :
    Hs X (Kn C δ) (.Assign [.Subscript (.Name x xp) b sp] e pos) (Kn C (δ.set i (some (.tbl ks (ds.set j d))))) Φ :=
  (ps_dput (by have := hr.units; omega) (pe_var hN hv hdb hcd) hk he hs).imp fun D σ H ⟨⟨M, ok⟩, q, _⟩ => ⟨M, ok, fun y H1 sm s ry => by
    obtain ⟨u, h1, l, xs, rfl, e2, e3, e4, e5⟩ := ok.val i _ hδ
    refine ⟨.ref l, h1, M, ok.mono s, fun z H2 sm2 s2 rz => ?_⟩
    cases rz
    have lx : xs.length = ks.length := by rw [e5.length, hl]
    have lt : (tb ks xs).length < sizeLine := by
      unfold tb
      rw [List.length_map, List.length_zip]
      omega
    refine ⟨l, _, rfl, DPut.k (k := (.inr t : Key)) (s2 _ _ (s _ _ e4)) lt, q _ _ ⟨M, ?_⟩⟩
    rw [tb_put nd lx hj]
    exact (ok.mono (s.trans s2)).writeT hδ h1 e2 e3 ((e5.mono (hid_same (s.trans s2))).set j (ry.mono (hid_same s2)))⟩
end
end Kl
/-! W23: a table from pairs. -/
namespace Kl
open PySem PySem.Spec PyProof.Rows L2 PySem.W
open C8 (Cal pe_c)
theorem rps_pairs {K : PySem.W.Frag} {H : Hp} : ∀ {ks : List Str} {ds : List PyData} {xs : List V}, ds.length = ks.length → Rps H xs ((ks.zip ds).map fun p => PyData.tuple [.str p.1, p.2]) → ∃ (ps : List Addr) (vs : List V), xs = ps.map V.ref ∧ Paired (fun p (kv : Key × V) => SqT K H p [kV kv.1, kv.2]) ps (tb ks vs) ∧ Rps H vs ds
  | [], ds, xs, hl, r => by
    have e : ds = [] := List.eq_nil_of_length_eq_zero (by simpa using hl)
    subst e
    cases r
    exact ⟨[], [], rfl, .nil, .nil⟩
  | k :: ks, [], xs, hl, r => by simp at hl
  | k :: ks, d :: ds, xs, hl, r => by
    cases r with
    | cons h r =>
      obtain ⟨ps, vs, rfl, p, rr⟩ := rps_pairs (K := K) (by simpa using hl) r
      cases h with
      | @tup a zs _ ha rz =>
        cases rz with
        | cons h1 rz =>
          cases rz with
          | @cons v _ _ _ h2 rz =>
            cases rz
            cases h1
            exact ⟨a :: ps, v :: vs, rfl, .cons (SqT.of ha) p, .cons h2 rr⟩
section
variable {X : Cx} {C : Cfg} {δ : Dl} {a : Expr} {ks : List Str} {ds : List PyData} {pos p : Pos}
theorem ee_tbl (hm : X.mg "dict" = none) (hc : X.calm = true) (ha : Ev X C δ a (.list ((ks.zip ds).map fun p => .tuple [.str p.1, p.2]))) (hl : ds.length = ks.length) (nd : ks.Nodup) (hg : Gl X "dict" := by rfl) (he : starEach [a] X.env = (false, eval a X.env) :: starEach [] X.env := by rfl) : EvE X C δ (.Call (.Name "dict" p) [a] [] pos) (.tbl ks ds) :=
  (PE.small (pe_callTy (call_dictP hc) hg hm (by decide +kernel) (pa_cons ha pa_nil he) (by decide) (by decide) he)).imp fun σ H Q ⟨M, ok, q⟩ => ⟨M, ok, fun v H1 sm s r => by
    cases r with
    | @lst l xs _ hl1 r =>
      obtain ⟨ps, vs, rfl, pr, rv⟩ := rps_pairs (K := X.K) hl r
      have up : ∀ {ps : List Addr} {kvs : List (Key × V)}, Paired (fun p (kv : Key × V) => SqT X.K (hid M H1) p [kV kv.1, kv.2]) ps kvs → Paired (fun p (kv : Key × V) => SqT X.K H1 p [kV kv.1, kv.2]) ps kvs := fun h => by
        induction h with
        | nil => exact .nil
        | cons h _ ih => exact .cons (sqT_mono hid_le h) ih
      refine ⟨l, ps, _, rfl, SqL.of (hid_le _ _ hl1), up pr, fun p hp sm2 => ?_⟩
      have m := merge_tb (ks := []) (vs := []) (ks2 := ks) (vs2 := vs) rfl (by rw [rv.length, hl]) (by simpa using nd)
      have m : mergeK [] (tb ks vs) = tb ks vs := m
      rw [m] at sm2 ⊢
      exact q _ _ sm2 (s.trans (same_new hp)) ⟨p, vs, rfl, Same.free s hp, upd_same, rv.mono (new_hid (ok.mono s).trk hp)⟩⟩
end
end Kl
/-! W24: the crew is drawn. -/
namespace Kl
open PySem PySem.Spec PyProof.Rows L2 PySem.W
open C8 (Cal pe_c)
def eSl (l : List Str) : PyData := .list (l.map .str)
section
variable {X : Cx} {C : Cfg} {δ : Dl} {a b : Expr} {ds : List PyData} {pos p : Pos} {k : Nat}
/-- list * int -/
theorem ef_rep (ha : Ev X C δ a (.list ds)) (hb : Ev X C δ b (.int (k : Int))) (hz : ds.length * k ≤ 16777216) (hk : k ≤ 16777216) : EvF X C δ (.BinOp a .Mult b pos) (List.replicate k ds).flatten :=
  EvF.mk (pe_op op_rep ha hb) fun M σ H Q ok q => ⟨M, ok, fun v H1 sm s r => ⟨M, ok.mono s, fun y H2 sm2 s2 r2 => by
    cases r2
    have r := r.mono (hid_same s2)
    cases r with
    | @lst l xs _ hl r =>
      have sz := sizeLine_eq
      refine ⟨l, k, xs, rfl, rfl, hid_le _ _ hl, by omega, by omega, by rw [Int.toNat_natCast, r.length, sz]; exact hz, fun p hp sm3 => ?_⟩
      rw [Int.toNat_natCast] at sm3 ⊢
      refine q p _ _ sm3 ((s.trans s2).trans (same_new hp)) (Same.free (s.trans s2) hp) upd_same (Rps.mono (new_hid (ok.mono (s.trans s2)).trk hp) ?_)
      have : ∀ k, Rps (hid M H2) (List.replicate k xs).flatten (List.replicate k ds).flatten := fun k => by
        induction k with
        | zero => exact .nil
        | succ k ih => rw [List.replicate_succ, List.replicate_succ, List.flatten_cons, List.flatten_cons]; exact r.append ih
      exact this k⟩⟩
end
def Dcrew : List PyData → Prop := fun ds => ∃ n, ds = [eN n] ∧ n.ls.length ≤ 5
def Screw : List PyData → PyData → Prop := fun ds r => ∃ c, r = eCr c ∧ WfC c
section
variable {P : Program} {w : World} {K : PySem.W.Frag} {mg : Str → Option Value} {base : Heap}
theorem sc68 : FnScope ["_law_box_here", "_law_web_here", "_law_tags", "_law_table", "_law_k", "_law_ring", "_law_more_so", "_law_tag", "_law_own"] ["_law_box_here", "_law_web_here"] (defScope (topS 68)) := ⟨rfl, rfl, rfl, by decide +kernel, rfl, by decide +kernel, by decide +kernel⟩
abbrev tabD (ks : List Str) (ls : List (List Str)) : Ent := .tbl ks (ls.map eSl)
theorem c_crew (G : Mg mg) (F : Df K mg "_law_crew" ["_law_box_here", "_law_web_here"] (topS 68)) (C1 : Cal P w K mg base 1 "_law_take" (spB 1 1 Dtake Stake) []) (C2 : Cal P w K mg base 2 "_law_of" (spB 1 1 Dof Sof) []) (C3 : Cal P w K mg base 2 "_law_pick" (spB 2 9 Dpick Spick) []) : Cal P w K mg base 3 "_law_crew" (spB 1 200 Dcrew Screw) [] := by
  refine cal_ofB F sc68 rfl fun f cdv A outer s H E M b m hr ds hl hD => ?_
  obtain ⟨n, rfl, ll⟩ := hD
  have sz := sizeLine_eq
  refine ho_cons (hsb_set (k := m + 200) (k1 := m + 190) 2 sc68.nd (drawP (gs := (["ann", "bo", "cy", "di", "k"] : List Str)) (en := .str) (Pc := fun c => 2 ≤ c ∧ c ≤ 4) C3 hr (ev_lst (ea_cons ev_str (ea_cons ev_str (ea_cons ev_str (ea_cons ev_str (ea_cons ev_str ea_nil)))))) (drawO (α := Nat) (en := fun c => .int (c : Nat)) (P0 := fun c => 2 ≤ c ∧ c ≤ 4) C2 hr (EvB.imp (evb (d := .list [.int 2, .int 3, .int 3, .int 4]) (ev_lst (ea_cons ev_int (ea_cons ev_int (ea_cons ev_int (ea_cons ev_int ea_nil)))))) fun r h => ⟨[2, 3, 3, 4], h, by simp, by simp, by decide⟩) (by decide)) (by decide) (by decide))) ?_
  refine ho_ex fun r => ho_and fun h => ?_
  obtain ⟨tg, rfl, ⟨rest, pm⟩, c, hc, len⟩ := h
  have t2 : 2 ≤ tg.length := by rw [len]; simp only [List.length_cons, List.length_nil]; omega
  have t4 : tg.length ≤ 4 := by rw [len]; simp only [List.length_cons, List.length_nil]; omega
  have tok : ∀ x ∈ tg, PyData.strOk x = true := fun x hx => by
    have := pm.subset (List.mem_append_left _ hx)
    simp only [List.mem_cons, List.not_mem_nil, or_false] at this
    rcases this with rfl | rfl | rfl | rfl | rfl <;> decide +kernel
  have tnd : tg.Nodup := by
    have : (tg ++ rest).Nodup := pm.nodup_iff.mpr (by decide +kernel)
    exact (List.nodup_append.mp this).1
  clear len hc pm
  refine ho_cons (hs_setE (e1 := tabD tg (tg.map fun _ => [])) 3 sc68.nd (ee_tbl (G.no "dict" (by decide)) rfl (Ev.cast (ef_1 (xs := tg) (en := .str) (f := fun t => .tuple [.str t, .list []]) 7 sc68.nd (ei_L (nv 2)) (fun _ _ _ _ _ x _ => ev_tup (ea_cons (nv 7) (ea_cons ef_nil.ev ea_nil)))).ev ?_) (by rw [List.length_map, List.length_map]) tnd)) ?_
  · congr 1
    rw [List.map_map]
    clear t2 t4 tok tnd
    induction tg with
    | nil => rfl
    | cons x r ih => rw [List.map_cons, List.map_cons, List.zip_cons_cons, List.map_cons, ← ih]; rfl
  -- rings
  have rl : (setT (n.ls.map keyL ++ ([("odd" : Str)] : List Str))).length ≤ 6 := by
    unfold setT setS
    rw [len_srt]
    refine Nat.le_trans (len_nub _) ?_
    rw [List.length_append, List.length_map]
    simp only [List.length_cons, List.length_nil]
    omega
  generalize hrs : setT (n.ls.map keyL ++ ([("odd" : Str)] : List Str)) = rs at rl
  refine ho_cons (hs_for (xs := enumL rs) (en := fun p : Nat × Str => PyData.tuple [.int (p.1 : Nat), .str p.2]) (G := List (List Str)) (is := [4, 5]) (δx := fun k ls p => bx (m + 190 - 30 * k) [some (.dat (eN n)), some (.dat (.list (tg.map .str))), some (tabD tg ls), some (.dat (.int (p.1 : Nat))), some (.dat (.str p.2)), none, none, none])
    (fun k ls => bx (m + 190 - 30 * k) [some (.dat (eN n)), some (.dat (.list (tg.map .str))), some (tabD tg ls), none, none, none, none, none]) (fun k ls => ls.length = tg.length ∧ ∀ l ∈ ls, l.length ≤ k) (tg.map fun _ => []) rfl PassesOwn.never ⟨List.length_map _, fun l hl => by obtain ⟨_, _, rfl⟩ := List.mem_map.mp hl; exact Nat.le_refl _⟩ (Les.refl _)
    (EvI.cast (ei_enum (ds := rs.map .str) (G.no "enumerate" (by decide)) ?_) (enum_eq (en := PyData.str) rs).symm) (fun ps k g x hx _ => gn2 (i := 4) (j := 5) rfl (fun δ d => gn 4 sc68.nd) (fun δ d => gn 5 sc68.nd)) (fun ps k ls p hx pl => ?_)) ?_
  · rw [← hrs]
    refine (ef_setTx hr (G.no "sorted" (by decide)) (G.no "set" (by decide)) (ks := n.ls.map keyL ++ ([("odd" : Str)] : List Str)) (EvS.cast (ef_cat (ds1 := (n.ls.map keyL).map .str) (ds2 := [.str "odd"]) (EvF.lst (EvF.cast (ef_1 (xs := n.ls) (en := eL) (f := fun l => .str (keyL l)) 8 sc68.nd (ei_T (ev_ixT (nv 1) ev_int)) (fun _ _ _ _ _ x _ => ev_ixT (nv 8) ev_int)) (by rw [List.map_map]; rfl))) (Ev.lst (ev_lst (ea_cons ev_str ea_nil))) ?_).seq ?_) ?_).ev
    · rw [List.length_map, List.length_map]
      simp only [List.length_cons, List.length_nil]
      omega
    · rw [List.map_append]
      rfl
    · rw [List.length_append, List.length_map]
      simp only [List.length_cons, List.length_nil]
      omega
  · obtain ⟨p1, p2⟩ := pl
    have hk : k < 6 := by
      have := (List.getElem?_eq_some_iff.mp hx).1
      unfold enumL at this
      rw [List.length_map, List.length_zipIdx] at this
      omega
    have eB : m + 190 - 30 * k = (m + 190 - 30 * (k + 1)) + 30 := by omega
    rw [eB]
    generalize hB : m + 190 - 30 * (k + 1) = B
    have hmod : p.1 % tg.length < tg.length := Nat.mod_lt _ (by omega)
    have a2 : atI (tg.map PyData.str) ((p.1 % tg.length : Nat) : Int) = some (.str (tg.getD (p.1 % tg.length) "")) := at_nat (by rw [List.getElem?_map, List.getD_eq_getElem?_getD, List.getElem?_eq_getElem hmod]; rfl)
    have m0 : tg.getD (p.1 % tg.length) "" ∈ tg := by
      rw [List.getD_eq_getElem?_getD, List.getElem?_eq_getElem hmod]
      exact List.getElem_mem hmod
    generalize tg.getD (p.1 % tg.length) "" = t0 at a2 m0
    have pick : ∀ (c0 : Nat) (r : PyData), IsPick PyData.str tg (fun c => c = c0) r → ∃ l : List Str, r = eSl l ∧ l.Nodup ∧ ∀ t ∈ l, t ∈ tg := fun c0 r h => by
      obtain ⟨ts, rfl, ⟨rest, pm⟩, _⟩ := h
      exact ⟨ts, rfl, (List.nodup_append.mp (pm.nodup_iff.mpr tnd)).1, fun t ht => pm.subset (List.mem_append_left _ ht)⟩
    refine ho_cons (hsb_set (k := B + 30) (k1 := B + 12) (P := fun r => ∃ ms : List (List Str), r = .list (ms.map eSl) ∧ ms ≠ [] ∧ ms.length ≤ 1000 ∧ ∀ l ∈ ms, l.Nodup ∧ ∀ t ∈ l, t ∈ tg) 6 sc68.nd (EvB.imp (evb_cat (en := eSl) (ef_rep (k := 5) (ds := [eSl [t0]]) (ev_lst (ds := [eSl [t0]]) (ea_cons (ev_lst (ds := [.str t0]) (ea_cons (ev_ixL (nv 2) (Ev.cast (ev_mod (nv 4) (ev_len (ds := tg.map .str) (G.no "len" (by decide)) (nv 2).seqL) (by rw [List.length_map]; omega)) (by rw [List.length_map]; rfl)) a2) ea_nil) (by show 1 ≤ sizeLine; omega)) ea_nil) (by show 1 ≤ sizeLine; omega)) ev_int (by simp) (by omega)).ev (EvB.imp (evb_lst (eab_cons (evb (d := .list []) ef_nil.ev) (eab_cons (k1 := B + 21) (drawP (gs := tg) (en := .str) (Pc := fun c => c = 2) C3 hr (nv 2) (EvB.imp (evb (d := .int 2) ev_int) fun r h => ⟨2, h, rfl⟩) (by omega) (by decide)) (eab_cons (k1 := B + 12) (drawP (gs := tg) (en := .str) (Pc := fun c => c = 3) C3 hr (nv 2) (EvB.imp (evb (d := .int 3) ev_int) fun r h => ⟨3, h, rfl⟩) (by omega) (by decide)) eab_nil))) (fun rs h => ?_)) fun r h => ?_) (PS := fun xs : List (List Str) => xs.length = 3 ∧ ∀ l ∈ xs, l.Nodup ∧ ∀ t ∈ l, t ∈ tg) (fun xs h => ?_)) fun r h => ?_)) ?_
    · obtain ⟨_, _, rfl, _, _, _, rfl, _, _, _, rfl, _, rfl⟩ := h
      simp only [List.length_cons, List.length_nil]
      omega
    · obtain ⟨rs, rfl, _, _, rfl, rfl, _, _, rfl, h1, _, _, rfl, h2, rfl⟩ := h
      obtain ⟨l1, rfl, n1, s1⟩ := pick 2 _ h1
      obtain ⟨l2, rfl, n2, s2⟩ := pick 3 _ h2
      refine ⟨[[], l1, l2], rfl, rfl, fun l hl => ?_⟩
      simp only [List.mem_cons, List.not_mem_nil, or_false] at hl
      rcases hl with rfl | rfl | rfl
      · exact ⟨List.nodup_nil, fun t ht => by simp at ht⟩
      · exact ⟨n1, s1⟩
      · exact ⟨n2, s2⟩
    · rw [h.1]
      simp
      omega
    · obtain ⟨xs, rfl, x3, xg⟩ := h
      refine ⟨List.replicate 5 [t0] ++ xs, ?_, by simp, by rw [List.length_append, List.length_replicate, x3]; omega, fun l hl => ?_⟩
      · rw [List.map_append]
        rfl
      · rcases List.mem_append.mp hl with h | h
        · rw [(List.mem_replicate.mp h).2]
          exact ⟨by simp, fun t ht => by rw [List.mem_singleton.mp ht]; exact m0⟩
        · exact xg l h
    refine ho_ex fun r => ho_and fun h => ?_
    obtain ⟨ms, rfl, ms0, ms1, mg'⟩ := h
    let lim : List Str → Nat → Nat → Nat := fun xs i j => k + if tg.getD j "" ∈ xs.take i then 1 else 0
    refine ho_post (ho_one (hsb_for (k := B + 12) (k1 := B + 11) (G := List (List Str)) (en := PyData.str) (PS := fun xs : List Str => xs.Nodup ∧ ∀ t ∈ xs, t ∈ tg) (is := [7]) (δx := fun _ _ ls t => bx (B + 11) [some (.dat (eN n)), some (.dat (.list (tg.map .str))), some (tabD tg ls), some (.dat (.int (p.1 : Nat))), some (.dat (.str p.2)), some (.dat (.list (ms.map eSl))), some (.dat (.str t)), none])
      (fun _ _ ls => bx (B + 11) [some (.dat (eN n)), some (.dat (.list (tg.map .str))), some (tabD tg ls), some (.dat (.int (p.1 : Nat))), some (.dat (.str p.2)), some (.dat (.list (ms.map eSl))), none, none]) (fun xs i ls => ls.length = tg.length ∧ ∀ j l, ls[j]? = some l → l.length ≤ lim xs i j) ls rfl PassesOwn.never (fun xs _ => ⟨p1, fun j l h => Nat.le_trans (p2 l (List.mem_of_getElem? h)) (Nat.le_add_right _ _)⟩) (fun _ _ => Les.refl _)
      (eib_L (EvB.imp (drawO (α := List Str) (en := eSl) (P0 := fun l => l.Nodup ∧ ∀ t ∈ l, t ∈ tg) C2 hr (EvB.imp (evb (d := .list (ms.map eSl)) (nv 6)) fun r h => ⟨ms, h, ms0, ms1, mg'⟩) (by decide)) fun r h => h)) (fun ps xs i g t _ hx _ => gn 7 sc68.nd) (fun ps xs i g t px hx pl => ?_))) fun σ' H' h => ?_
    · obtain ⟨q1, q2⟩ := pl
      have tm := px.2 t (List.mem_of_getElem? hx)
      obtain ⟨j, hj⟩ := List.mem_iff_getElem?.mp tm
      have jl : j < tg.length := (List.getElem?_eq_some_iff.mp hj).1
      have hg := List.getElem?_eq_getElem (l := g) (i := j) (by omega)
      generalize g[j] = l at hg
      have tj : tg.getD j "" = t := by rw [List.getD_eq_getElem?_getD, hj]; rfl
      have nt : t ∉ xs.take i := fun z => by
        have h1 : (xs.take (i + 1)).Nodup := px.1.sublist (List.take_sublist _ _)
        rw [take_end hx] at h1
        exact (List.nodup_append.mp h1).2.2 t z t (by simp) rfl
      have ll : l.length ≤ k := by
        have := q2 j l hg
        simp only [lim, tj, nt, if_false, Nat.add_zero] at this
        exact this
      refine ho_post (ho_one (hs_tput (ks := tg) (ds := g.map eSl) (d := eSl (l ++ [p.2])) 3 j hr (Ev.cast (ef_cat (ds1 := l.map .str) (ds2 := [.str p.2]) (Ev.lst (Ev.cast (ev_tget (ks := tg) (ds := g.map eSl) (d := eSl l) 3 j hr (nv 7) tnd hj (by rw [List.getElem?_map, hg]; rfl)) rfl)) (Ev.lst (ev_lst (ea_cons (nv 5) ea_nil))) ?_).ev ?_) (nv 7) tnd hj (by rw [List.length_map]; exact q1) (by omega))) fun σ' H' h => ⟨g.set j (l ++ [p.2]), ⟨by rw [List.length_set]; exact q1, fun j' l' h' => ?_⟩, ?_⟩
      · rw [List.length_map]
        simp only [List.length_cons, List.length_nil]
        omega
      · unfold eSl
        rw [List.map_append]
        rfl
      · have e1 : xs.take (i + 1) = xs.take i ++ [t] := take_end hx
        rcases get_set_eq h' with ⟨e, rfl, _⟩ | ⟨e, h'⟩
        · subst e
          simp only [lim, tj, e1, List.mem_append, List.mem_singleton, or_true, if_true]
          rw [List.length_append]
          simp only [List.length_cons, List.length_nil]
          omega
        · refine Nat.le_trans (q2 j' l' h') ?_
          simp only [lim, e1, List.mem_append]
          split
          · rename_i z
            rw [if_pos (.inl z)]
            exact Nat.le_refl _
          · exact Nat.le_add_right _ _
      · rw [tabD, List.map_set]
        exact Kn.les (.keep (.keep (.keep (.keep (.keep (.keep (.keep (.skip (.skip .nil))))))))) _ _ h
    · obtain ⟨xs, g, px, ⟨q1, q2⟩, hk'⟩ := h
      refine ⟨g, ⟨q1, fun l hl => ?_⟩, ?_⟩
      · obtain ⟨j, hj⟩ := List.mem_iff_getElem?.mp hl
        refine Nat.le_trans (q2 j l hj) ?_
        simp only [lim]
        split <;> omega
      · exact kn_close (fun _ _ _ h => h.le (by omega)) _ _ (Kn.les (.keep (.keep (.keep (.keep (.skip (.skip (.skip (.skip (.skip .nil))))))))) _ _ hk')
  refine ho_ex fun ls => ho_and fun pl => ?_
  obtain ⟨p1, p2⟩ := pl
  have el : (enumL rs).length = rs.length := by unfold enumL; rw [List.length_map, List.length_zipIdx]
  rw [el] at p2 ⊢
  let cr : Crew := (srt PyData.str tg).map fun t => (t, ls.getD (tg.idxOf t) [])
  have pc : people cr = srt PyData.str tg := by
    show (((srt PyData.str tg).map fun t => (t, ls.getD (tg.idxOf t) [])).map fun p => p.1) = _
    rw [List.map_map]
    exact List.map_id' _
  refine ho_one (hsb_ret (B0 := b) (k1 := m) (EvB.imp (EvB.le (evb (d := eCr cr) (ev_tupL (ds := cr.map eH) (G.no "tuple" (by decide)) (Ev.cast (ef_1 (xs := srt PyData.str tg) (en := .str) (f := fun t => eH (t, ls.getD (tg.idxOf t) [])) 7 sc68.nd (EvI.cast (ei_L (ef_sorted hr (G.no "sorted" (by decide)) (nv 2).lst (srtb_str tg) (lay_texts tg)).ev) (sortD_srt inj_str tg)) (fun s H Cc cl fp t ht => ?_)).ev ?_))) (by omega)) fun r e => ?_) rfl)
  · have tm : t ∈ tg := mem_srt.mp ht
    have ix : tg.idxOf t < tg.length := List.idxOf_lt_length_iff.mpr tm
    refine ev_tup (ea_cons (nv 7) (ea_cons (ev_tupL (G.no "tuple" (by decide)) (ev_tget (ks := tg) (ds := ls.map eSl) (d := eSl (ls.getD (tg.idxOf t) [])) 3 (tg.idxOf t) hr (nv 7) tnd ?_ ?_)) ea_nil))
    · rw [List.getElem?_eq_getElem ix, List.getElem_idxOf]
    · rw [List.getElem?_map, List.getD_eq_getElem?_getD, List.getElem?_eq_getElem (by omega)]
      rfl
  · rw [List.map_map]
    rfl
  · refine ⟨cr, e, ?_, ?_, ?_, fun q hq => ?_, fun q hq => ?_⟩
    · rw [pc]
      exact srt_nd.mpr tnd
    · show ((srt PyData.str tg).map fun t => (t, ls.getD (tg.idxOf t) [])).length ≤ 5
      rw [List.length_map, len_srt]
      omega
    · rw [pc]
      exact srt_up tg
    · obtain ⟨t, ht, rfl⟩ := List.mem_map.mp hq
      exact tok t (mem_srt.mp ht)
    · obtain ⟨t, ht, rfl⟩ := List.mem_map.mp hq
      have ix : tg.idxOf t < tg.length := List.idxOf_lt_length_iff.mpr (mem_srt.mp ht)
      have := p2 (ls.getD (tg.idxOf t) []) (by rw [List.getD_eq_getElem?_getD, List.getElem?_eq_getElem (by omega)]; exact List.getElem_mem _)
      show (ls.getD (tg.idxOf t) []).length ≤ 8
      omega
end
end Kl
/-! W25: right. -/
namespace Kl
open PySem PySem.Spec PyProof.Rows L2 PySem.W
open C8 (Cal pe_c)
section
variable {X : Cx} {C : Cfg} {δ : Dl} {k k1 : Nat} {e : Expr} {es : List Expr} {PS : List PyData → Prop} {P : PyData → Prop} {pos p : Pos}
theorem evb_callR {n j lv : Nat} {x : Str} {S : List PyData → PyData → Prop} (cl : Cal X.prog X.w X.K X.mg X.base lv x (spR n S) []) (hr : Room j X.A) (ha : EaB X C k k1 δ (e :: es) PS) (hS : ∀ ds, PS ds → ds.length = n ∧ ∃ r, S ds r ∧ P r) (hk : lv ≤ j := by decide) (hg : Gl X x := by rfl)
    (hdb : (x == ("__debug__" : Str)) = false := by decide) (he : starEach (e :: es) X.env = (false, eval e X.env) :: starEach es X.env := by rfl) (hpl : (backTo pos (starEach es X.env)).any (·.1) = false := by rfl) :
    EvB X C k k1 δ (.Call (.Name x p) (e :: es) [] pos) P :=
  EvB.mk (pe_c cl hr hk hg ha hdb he hpl) fun M σ H Q ok q => ⟨M, ok, fun vs H1 rs sm ok1 s ps rv => by
    obtain ⟨hl, r, hr, pr⟩ := hS rs ps
    exact ⟨by rw [List.append_nil, rv.length]; exact hl, M, rs, r, ok1.trk, by rw [List.append_nil]; exact rv, hr, fun v H2 s2 rv2 sm2 => q v H2 r sm2 (ok1.mono s2) (s.trans (.of ok1 s2)) pr rv2⟩⟩
end
section
variable {P : Program} {w : World} {K : PySem.W.Frag} {mg : Str → Option Value} {base : Heap}
def Sok : List PyData → PyData → Prop := fun _ r => r = .bool true
theorem sc74 : FnScope ["_law_box_here", "_law_web_here", "_law_crew_here", "_law_own"] ["_law_box_here"] (defScope (topS 74)) := ⟨rfl, rfl, rfl, by decide +kernel, rfl, by decide +kernel, by decide +kernel⟩
theorem c_right (G : Mg mg) (F : Df K mg "_law_right" ["_law_box_here"] (topS 74)) (C1 : Cal P w K mg base 3 "_law_web" (spB 0 160 (fun _ => True) Snet) []) (C2 : Cal P w K mg base 3 "_law_crew" (spB 1 200 Dcrew Screw) []) (C3 : Cal P w K mg base 3 "_law_bits" (spB 2 19 Dbits Sbits) []) (C4 : Cal P w K mg base 1 "_law_purse" (spR 2 Spurse) []) (C5 : Cal P w K mg base 7 "_law_case_right" (spR 3 Scase) []) : Cal P w K mg base 8 "_law_right" (spB 0 379 (fun _ => True) Sok) [] := by
  refine cal_ofB F sc74 rfl fun f cdv A outer s H E M b m hr ds hl hD => ?_
  have e0 : ds = [] := List.eq_nil_of_length_eq_zero hl
  subst e0
  refine ho_cons (hsb_set (k := m + 379) (k1 := m + 219) (P := fun r => ∃ n, r = eN n ∧ WfN n ∧ Pos0 n ∧ n.cs ≠ [] ∧ n.cs.length ≤ 9) 1 sc74.nd (EvB.imp (evb_call (k1 := m + 219) C1 hr eab_nil (fun ds h => ⟨by rw [h]; rfl, trivial⟩)) fun r h => ?_)) ?_
  · obtain ⟨ds, _, n, e, h⟩ := h
    exact ⟨n, e, h⟩
  refine ho_ex fun r => ho_and fun h => ?_
  obtain ⟨n, rfl, Wn, W0, c0, c9⟩ := h
  refine ho_cons (hsb_set (k := m + 219) (k1 := m + 19) (P := fun r => ∃ c, r = eCr c ∧ WfC c) 2 sc74.nd (EvB.imp (evb_call (k1 := m + 19) C2 hr (eab_cons (evb (d := eN n) (nv 1)) eab_nil) (fun ds h => ?_)) fun r h => ?_)) ?_
  · obtain ⟨_, _, rfl, rfl, rfl⟩ := h
    exact ⟨rfl, n, rfl, Wn.ll⟩
  · obtain ⟨ds, _, c, e, h⟩ := h
    exact ⟨c, e, h⟩
  refine ho_ex fun r => ho_and fun h => ?_
  obtain ⟨c, rfl, Wc⟩ := h
  have pu : ∀ {C : Cfg} {k : Nat}, True := trivial
  refine ho_one (hsb_ret (B0 := b) (k1 := m) (evb_callR (P := fun r => r = .bool true) C5 hr (eab_cons (evb (d := eN n) (nv 1)) (eab_cons (evb (d := eCr c) (nv 2)) (eab_cons (evb_call (k1 := m) C3 hr (eab_cons (evb (d := eN n) (nv 1)) (eab_cons (evb (d := eK (heldBy c (people c))) (ev_call C4 hr (ea_cons (nv 2) (ea_cons (d := .list ((people c).map .str)) ?_ ea_nil)) ⟨c, false, people c, rfl, Wc, rfl⟩)) eab_nil)) (fun ds h => ?_)) eab_nil))) (fun ds h => ?_)) rfl)
  · refine Ev.cast (ef_1 (xs := c) (en := eH) (f := fun p => .str p.1) 3 sc74.nd (ei_T (nv 2)) (fun _ _ _ _ _ x _ => ?_)).ev ?_
    · exact ev_ixT (nv 3) ev_int
    · unfold people
      rw [List.map_map]
      rfl
  · obtain ⟨_, _, rfl, rfl, _, _, rfl, rfl, rfl⟩ := h
    exact ⟨rfl, n, _, rfl, Wn.yl, c0, c9⟩
  · obtain ⟨_, _, rfl, rfl, _, _, rfl, rfl, _, _, rfl, ⟨_, _, lot, rfl⟩, rfl⟩ := h
    exact ⟨rfl, .bool true, right_case ⟨n, c, lot, rfl, Wn, W0, Wc, rfl⟩, rfl⟩
end
end Kl
/-! W26: the boxes of a script. -/
namespace Kl
open PySem PySem.Spec PyProof.Rows L2
open C8 (Cal pe_c)
/-- a new box is handed back -/
def spN (n : Nat) (Dm : List PyData → Prop) : Sp := fun vs H Q _ => vs.length = n ∧ ∃ M ds, Trk M H ∧ Rps (hid M H) vs ds ∧ Dm ds ∧ ∀ l g s H', Same H H' → H l = none → H' l = some (.lst [.int g, .int s, .int 0]) → 0 ≤ s → s < 4611686018427387904 → Q (.ref l) H'
def RtN (H : Hp) : VK := fun v H' => ∃ l g s, v = .ref l ∧ Same H H' ∧ H l = none ∧ H' l = some (.lst [.int g, .int s, .int 0]) ∧ (0 : Int) ≤ s ∧ s < 4611686018427387904
section
variable {X : Cx} {C : Cfg} {δ : Dl} {e : Expr} {pos : Pos}
theorem hs_retN {R : Ass} {g s : Int} (he : EvF X C δ e [.int g, .int s, .int 0]) (h0 : 0 ≤ s) (h1 : s < 4611686018427387904) (hB : C.B = []) : Hs X (Kn C δ) (.Return (some e) pos) R (RtN C.H0) :=
  (ps_ret he).imp fun D σ H ⟨⟨M, ok⟩, _, q⟩ => ⟨M, ok, fun l xs H' sm t nl hl r => q _ _ (by
    have e : xs = [g, s, 0].map V.int := Rps.ints (ns := [g, s, 0]) r
    subst e
    exact ⟨l, g, s, rfl, fun a o h => (ok.mono t).fr a o (by rw [hB]; simp) h, ok.new0 nl (ok.outB nl), hl, h0, h1⟩)⟩
end
section
variable {P : Program} {w : World} {K : PySem.W.Frag} {mg : Str → Option Value} {base : Heap}
theorem cal_ofN {x : Str} {st : Stmt} {N ps : List Str} {k n : Nat} {Dm : List PyData → Prop} (F : Df K mg x ps st) (sc : FnScope N ps (defScope st)) (hn : ps.length = n)
    (hbody : ∀ (f : Addr) (cdv : Value) (A : Around) (outer : List Env) (s : Shared) (H : Hp) (E : XK) (M : List Addr), Room k (A.deeper (envOfC x (defScope st) s.heap.objs.size f cdv)) → ∀ ds, Dm ds →
      Ho (cxOf CX0 P w K mg base N x (defScope st) f cdv A outer s H E).nox (Kn ⟨K, H, M, [], []⟩ (dl N ds)) (defBody st) No (RtN H)) : Cal P w K mg base (k + 1) x (spN n Dm) [] := by
  obtain ⟨f, fd, Ff, hm, hb⟩ := F.ex
  refine ⟨f, fd, ps, [], Ff.ok sc (fun vs H Q E h => h.1.trans hn.symm) (fun cdv A outer s H vs Q E hr h => ?_), hm, Ff.kp, hb, .nil⟩
  obtain ⟨_, M, ds, t, rs, hD, q⟩ := h
  exact ⟨_, hbody f cdv A outer s H E M hr ds hD, ⟨M, ok_start t rs⟩, fun σ' H' z => z.elim, fun v H' ⟨l, g, s', e, z1, z2, z3, z4, z5⟩ => by rw [e]; exact q l g s' H' z1 z2 z3 z4 z5⟩
/-! ### _law_box -/
def Dbox : List PyData → Prop := fun ds => ∃ (ms : List Int) (k : Nat), ds = [.list (ms.map .int), .int (k : Nat)] ∧ k < ms.length ∧ ms.length ≤ 2
theorem sc53 : FnScope ["_law_script", "_law_k", "_law_cell"] ["_law_script", "_law_k"] (defScope (topS 53)) := ⟨rfl, rfl, rfl, by decide +kernel, rfl, by decide +kernel, by decide +kernel⟩
theorem c_box (G : Mg mg) (F : Df K mg "_law_box" ["_law_script", "_law_k"] (topS 53)) : Cal P w K mg base 1 "_law_box" (spN 2 Dbox) [] := by
  refine cal_ofN F sc53 rfl fun f cdv A outer s H E M hr ds hD => ?_
  obtain ⟨ms, k, rfl, hk, h2⟩ := hD
  have hx : atI (ms.map PyData.int) (k : Int) = some (.int ms[k]) := by
    unfold atI ixN
    rw [if_pos (by omega), if_pos (by rw [List.length_map]; omega), Int.toNat_natCast]
    show (ms.map PyData.int)[k]? = _
    rw [List.getElem?_map, List.getElem?_eq_getElem hk]
    rfl
  generalize ms[k] = c at hx
  refine ho_cons (hs_set (d := .int c) 2 sc53.nd (ev_if (et_lt (nv 1) (ev_len (G.no "len" (by decide)) (nv 0).seqL)) (fun _ => ev_ixL (nv 0) (nv 1) hx) (fun h => ?_))) ?_
  · rw [List.length_map] at h
    have := of_decide_eq_false h
    omega
  have p18 : ∀ {C : Cfg} {X : Cx} {δ : Dl} {p q r : Pos} {i j}, Ev X C δ (.BinOp (.Constant (.int 10) i p) .Pow (.Constant (.int 18) j q) r) (.int (10 ^ (18 : Int).toNat)) := fun {C X δ p q r i j} => ev_op op_pow ev_int ev_int (od_intC (P := CPow) ⟨by decide, by decide, by decide⟩ fun _ => .int _)
  refine ho_one (hs_retN (ef_lst (ea_cons (ev_mul (ev_abs (G.no "abs" (by decide)) (nv 2)) (ev_intB (G.no "int" (by decide)) (ev_ge (ev_abs (G.no "abs" (by decide)) (nv 2)) p18)) ?_) (ea_cons (ev_add (ev_add (ev_mod (ev_int1 (G.no "int" (by decide)) (nv 2)) ev_int (by decide)) (ev_mul ev_int (nv 1) ?_)) ev_int) (ea_cons ev_int ea_nil)))) ?_ ?_ rfl)
  · have z : ∀ b : Bool, CMul (if c < 0 then -c else c) (if b = true then 1 else 0) := fun b => .inr (by cases b <;> decide)
    exact z _
  · exact .inl (by decide)
  · have := Int.emod_nonneg c (b := 2305843009213693951) (by decide)
    omega
  · have := Int.emod_lt_of_pos c (b := 2305843009213693951) (by decide)
    omega
end
end Kl
/-! W27: the cells of a script. -/
namespace Kl
open PySem PySem.Spec PyProof.Rows L2
open C8 (Cal pe_c)
/-- a list that may be the kept one -/
def tDq (C : Cfg) (δ : Dl) (ds : List PyData) : TE := fun σ H Q => ∃ M, OkM C M δ σ H ∧ ∀ a vs H', Small H' → Same H H' → SqL C.K H' a vs → Rps (hid M H') vs ds → Q (.ref a) H'
abbrev EvQ (X : Cx) (C : Cfg) (δ : Dl) (e : Expr) (ds : List PyData) : Prop := PE X e (tDq C δ ds)
section
variable {X : Cx} {C : Cfg} {δ : Dl} {a b e : Expr} {rest : List Expr} {ds ds2 : List PyData} {pos : Pos}
theorem nScr (i : Nat) {x : Str} {ns : List Int} (hN : X.N[i]? = some x := by rfl) (hδ : δ[i]? = some (some (.scr ns)) := by rfl) (hv : Vis X.env.scope x := by first | exact Or.inl rfl | exact Or.inr (Or.inl rfl) | exact Or.inr (Or.inr rfl))
    (hd : (x == ("__debug__" : Str)) = false := by decide) (hcd : (x == ("__classdict__" : Str)) = false := by decide) : EvQ X C δ (.Name x pos) (ns.map .int) :=
  L2.PE.imp (L2.PE.small (pe_var hN hv hd hcd)) fun σ H Q ⟨M, ok, q⟩ => by
    obtain ⟨v, h1, a, rfl, hq⟩ := ok.val i _ hδ
    exact ⟨_, h1, fun sm => q a _ H sm (Same.refl H) (Same.seq hid_le hq) (Rps.all (fun i => .int i) _)⟩
theorem ef_slQ {lo hi : Option Expr} {tl th : TO} {l u : Option Int} {p2 : Pos} (hK : C.K = X.K) (ha : EvQ X C δ a ds) (hl : PO X lo tl) (hu : PO X hi th)
    (tl' : ∀ {M σ H} {R : Option Int → Hp → Prop}, OkM C M δ σ H → (∀ H', Same H H' → R l H') → tl σ H R) (th' : ∀ {M σ H} {R : Option Int → Hp → Prop}, OkM C M δ σ H → (∀ H', Same H H' → R u H') → th σ H R) :
    EvF X C δ (.Subscript a (.Slice lo hi none p2) pos) ((ds.drop (HT.sIx ds.length 0 l)).take (HT.sIx ds.length ds.length u - HT.sIx ds.length 0 l)) :=
  EvF.mk (pe_slice sl_list ha hl hu) fun M σ H Q ok q => ⟨M, ok, fun x vs H1 sm s hx r => by
    refine tl' (ok.mono s) fun H2 s2 => ?_
    refine th' (ok.mono (s.trans s2)) fun H3 s3 => ?_
    refine ⟨x, vs, rfl, (by rw [← hK]; exact Same.seq (s2.trans s3) hx), fun p hp sm3 => q p _ _ sm3 (((s.trans s2).trans s3).trans (same_new hp)) (Same.free ((s.trans s2).trans s3) hp) upd_same ?_⟩
    have e := r.length
    unfold cutV
    rw [e]
    have okx := ok.mono ((s.trans s2).trans s3)
    refine Rps.mono ?_ (((r.mono (hid_same (s2.trans s3))).drop _).take _)
    exact new_hid okx.trk hp⟩
theorem ef_takeQ {k : Nat} {p2 : Pos} (ha : EvQ X C δ a ds) (he : Ev X C δ e (.int (k : Int))) (hK : C.K = X.K := by rfl) : EvF X C δ (.Subscript a (.Slice none (some e) none p2) pos) (ds.take k) := by
  obtain ⟨tl, h1, h2⟩ := po_nat he
  refine EvF.cast (ef_slQ (l := none) (u := some (k : Int)) hK ha po_none h1 (fun ok q => q _ (Same.refl _)) h2) ?_
  rw [HT.sIx_none, HT.sIx_nat, List.drop_zero, Nat.sub_zero]
  rcases Nat.le_total k ds.length with h | h
  · rw [Nat.min_eq_left h]
  · rw [Nat.min_eq_right h, List.take_length, List.take_of_length_le h]
theorem ef_midQ {k n : Nat} {p2 : Pos} (ha : EvQ X C δ a ds) (he : Ev X C δ e (.int (k : Int))) (hb : Ev X C δ b (.int (n : Int))) (hn : ds.length ≤ n) (hK : C.K = X.K := by rfl) : EvF X C δ (.Subscript a (.Slice (some e) (some b) none p2) pos) (ds.drop k) := by
  obtain ⟨tl, h1, h2⟩ := po_nat he
  obtain ⟨tu, g1, g2⟩ := po_nat hb
  refine EvF.cast (ef_slQ (l := some (k : Int)) (u := some (n : Int)) hK ha h1 g1 h2 g2) ?_
  rw [HT.sIx_nat, HT.sIx_nat, Nat.min_eq_right hn]
  rcases Nat.le_total k ds.length with h | h
  · rw [Nat.min_eq_left h, List.take_of_length_le (by rw [List.length_drop]; exact Nat.le_refl _)]
  · rw [Nat.min_eq_right h, List.drop_length, List.drop_of_length_le h]
    simp
/-- a list or else another -/
theorem ef_or (ha : EvF X C δ a ds) (hb : ds = [] → EvF X C δ b ds2) : EvF X C δ (.BoolOp .Or [a, b] pos) (if ds = [] then ds2 else ds) := by
  by_cases h : ds = []
  · subst h
    rw [if_pos rfl]
    refine EvF.mk (pe_orT ha (pe_one (hb rfl))) fun M σ H Q ok q => ⟨M, ok, fun l xs H1 sm s nl hl r => ?_⟩
    cases r
    exact ⟨false, .inl ⟨[], SqL.of hl, rfl⟩, by
      rw [if_neg (by simp)]
      exact ⟨M, ok.mono s, fun l2 xs2 H2 sm2 s2 nl2 hl2 r2 sm3 => q l2 xs2 H2 sm3 (s.trans s2) (Same.free s nl2) hl2 r2⟩⟩
  · rw [if_neg h]
    refine ⟨fun pins s σ H Q I hh => ?_⟩
    obtain ⟨M, ok, q⟩ := hh
    refine BoolOp_or (thn (ha.run pins s σ H (fun v H1 => ∃ l xs, v = .ref l ∧ xs ≠ [] ∧ H1 l = some (.lst xs) ∧ Q v H1) I ⟨M, ok, fun l xs H1 sm s nl hl r => ⟨l, xs, rfl, fun z => h (by rw [z] at r; cases r; rfl), hl, q l xs H1 sm s nl hl r⟩⟩) fun v s1 ⟨x, H1, I1, r1, q1⟩ => ?_)
    obtain ⟨l, xs, rfl, hne, hl, q1⟩ := q1
    refine thn (tru_ok pins s1 σ H1 (.ref l) v (fun c H2 => c = true ∧ H2 = H1) I1 r1 ⟨true, .inl ⟨xs, SqL.of hl, ?_⟩, rfl, rfl⟩) fun c s2 hc => ?_
    · cases xs with
      | nil => exact absurd rfl hne
      | cons _ _ => rfl
    · obtain ⟨H2, I2, rfl, rfl⟩ := hc
      exact ⟨.ref l, H2, I2, r1, q1⟩
def RtO (H : Hp) (P : List Int → Prop) : VK := fun v H' => ∃ (l : Addr) (ms : List Int), v = .ref l ∧ Same H H' ∧ H l = none ∧ H' l = some (.lst (ms.map .int)) ∧ P ms
/-- return xs, a list of one's own -/
theorem hs_retO {R : Ass} (i : Nat) {x : Str} {p : Pos} {ms : List Int} {P : List Int → Prop} (hP : P ms) (hB : C.B = []) (hN : X.N[i]? = some x := by rfl) (hδ : δ[i]? = some (some (.own (ms.map .int))) := by rfl) (hv : Vis X.env.scope x := by first | exact Or.inl rfl | exact Or.inr (Or.inl rfl) | exact Or.inr (Or.inr rfl))
    (hd : (x == ("__debug__" : Str)) = false := by decide) (hcd : (x == ("__classdict__" : Str)) = false := by decide) : Hs X (Kn C δ) (.Return (some (.Name x p)) pos) R (RtO C.H0 P) :=
  (ps_ret (pe_var hN hv hd hcd)).imp fun D σ H ⟨⟨M, ok⟩, _, q⟩ => by
    obtain ⟨v, h1, l, xs, e1, e2, e3, e4, e5⟩ := ok.val i _ hδ
    have e := e5.ints
    subst e
    exact ⟨v, h1, q _ _ ⟨l, ms, e1, fun a o h => ok.fr a o (by rw [hB]; simp) h, e3, e4, hP⟩⟩
end
section
variable {P : Program} {w : World} {K : PySem.W.Frag} {mg : Str → Option Value} {base : Heap}
def spCells (K : PySem.W.Frag) : Sp := fun vs H Q _ => ∃ (a : Addr) (ns : List Int), vs = [.ref a, .int 2] ∧ SqL K H a (ns.map V.int) ∧ ns.length ≤ 63 ∧ ∀ (l : Addr) (ms : List Int) (H' : Hp), Same H H' → H l = none → H' l = some (.lst (ms.map V.int)) → 0 < ms.length → ms.length ≤ 2 → Q (.ref l) H'
theorem sc55 : FnScope ["_law_script", "_law_top_so", "_law_cells_so", "_law_k", "_law_cell", "_law_at_so"] ["_law_script", "_law_top_so"] (defScope (topS 55)) := ⟨rfl, rfl, rfl, by decide +kernel, rfl, by decide +kernel, by decide +kernel⟩
abbrev C0 (K : PySem.W.Frag) (H : Hp) : Cfg := ⟨K, H, [], [], []⟩
theorem ok_scr {H : Hp} {a : Addr} {ns : List Int} {σ : L2.St} {δ : Dl} (hS : SqL K H a (ns.map V.int)) (hl : δ.length ≤ σ.length) (hv : ∀ (i : Nat) e, δ[i]? = some (some e) → (e = .scr ns ∧ σ[i]? = some (some (.ref a))) ∨ e = .dat (.int 2) ∧ σ[i]? = some (some (.int 2))) : OkM (C0 K H) [] δ σ H := by
  refine ⟨fun _ _ _ h => h, fun m hm => by simp at hm, fun b hb => by simp at hb, fun _ h => h, fun m hm => by simp at hm, fun p hp => by simp at hp, hl, fun i e h => ?_, fun i j e e' v h1 h2 h3 h4 _ _ => ?_⟩
  · rcases hv i e h with ⟨rfl, h2⟩ | ⟨rfl, h2⟩
    · exact ⟨_, h2, a, rfl, hS⟩
    · exact ⟨_, h2, Rp.int 2⟩
  · rcases hv i e h1 with ⟨rfl, _⟩ | ⟨rfl, _⟩ <;> cases h3
theorem c_cells (G : Mg mg) (F : Df K mg "_law_cells" ["_law_script", "_law_top_so"] (topS 55)) : Cal P w K mg base 1 "_law_cells" (spCells K) [] := by
  obtain ⟨f, fd, Ff, hm, hb⟩ := F.ex
  refine ⟨f, fd, ["_law_script", "_law_top_so"], [], Ff.ok sc55 (fun vs H Q E h => ?_) (fun cdv A outer s H vs Q E hr h => ?_), hm, Ff.kp, hb, .nil⟩
  · obtain ⟨a, ns, rfl, _⟩ := h
    rfl
  obtain ⟨a, ns, rfl, hS, hl, q⟩ := h
  have key : Ho (cxOf CX0 P w K mg base ["_law_script", "_law_top_so", "_law_cells_so", "_law_k", "_law_cell", "_law_at_so"] "_law_cells" (defScope (topS 55)) f cdv A outer s H E).nox (Kn (C0 K H) [some (.scr ns), some (.dat (.int 2)), none, none, none, none]) (defBody (topS 55)) No (RtO H fun ms => 0 < ms.length ∧ ms.length ≤ 2) := by
    have e0 : ∃ ms0 : List Int, (if (ns.map PyData.int).take 2 = [] then [PyData.int 0] else (ns.map PyData.int).take 2) = ms0.map .int ∧ 0 < ms0.length ∧ ms0.length ≤ 2 ∧ (2 < ns.length → ms0.length = 2) := by
      cases ns with
      | nil => exact ⟨[0], rfl, by simp, by simp, fun h => by simp at h⟩
      | cons x r =>
        refine ⟨(x :: r).take 2, ?_, ?_, ?_, fun h => ?_⟩
        · rw [if_neg (by simp), List.map_take]
        · rw [List.length_take, List.length_cons]; omega
        · rw [List.length_take]; omega
        · rw [List.length_take]; omega
    obtain ⟨ms0, e0, p0, p2, pe⟩ := e0
    refine ho_cons (hs_setF (ds := ms0.map .int) 2 sc55.nd (EvF.cast (ef_or (ef_list (G.no "list" (by decide)) (ef_takeQ (k := 2) (nScr 0) (nv 1)).seq) fun _ => ef_lst (ea_cons ev_int ea_nil)) e0)) ?_
    refine ho_cons (hs_for (xs := enumL (ns.drop 2)) (en := fun p : Nat × Int => PyData.tuple [.int (p.1 : Nat), .int p.2]) (G := List Int) (is := [3, 4]) (δx := fun _ (ms : List Int) (p : Nat × Int) => [some (.scr ns), some (.dat (.int 2)), some (.own (ms.map .int)), some (.dat (.int (p.1 : Nat))), some (.dat (.int p.2)), none])
      (fun _ (ms : List Int) => [some (.scr ns), some (.dat (.int 2)), some (.own (ms.map .int)), none, none, none]) (fun _ (ms : List Int) => ms.length = ms0.length) ms0 rfl PassesOwn.never rfl (Les.refl _)
      (EvI.cast (ei_enum (ds := (ns.drop 2).map .int) (G.no "enumerate" (by decide)) (EvF.cast (ef_midQ (k := 2) (n := 63) (nScr 0) (nv 1) ev_int (by rw [List.length_map]; exact hl)) (by rw [List.map_drop])).ev) (enum_eq (en := PyData.int) (ns.drop 2)).symm) (fun ps k g x hx _ => gn2 (i := 3) (j := 4) rfl (fun δ d => gn 3 sc55.nd) (fun δ d => gn 4 sc55.nd)) (fun ps k ms p hx pl => ?_)) ?_
    · have hk : 2 < ns.length := by
        have := (List.getElem?_eq_some_iff.mp hx).1
        unfold enumL at this
        rw [List.length_map, List.length_zipIdx, List.length_drop] at this
        omega
      have h2 : ms.length = 2 := by rw [pl, pe hk]
      have hj : p.1 % 2 < ms.length := by omega
      have hix : atI (ms.map PyData.int) ((p.1 % 2 : Nat) : Int) = some (.int ms[p.1 % 2]) := by
        unfold atI ixN
        rw [if_pos (by omega), if_pos (by rw [List.length_map]; omega), Int.toNat_natCast]
        show (ms.map PyData.int)[p.1 % 2]? = _
        rw [List.getElem?_map, List.getElem?_eq_getElem hj]
        rfl
      have hj' : p.1 % 2 < (ms.map PyData.int).length := by rw [List.length_map]; exact hj
      generalize ms[p.1 % 2] = c at hix
      have hp : p.1 < 61 := by
        have := List.mem_of_getElem? hx
        unfold enumL at this
        obtain ⟨z, hz, rfl⟩ := List.mem_map.mp this
        have := (List.mem_zipIdx hz).2.1
        rw [List.length_drop] at this
        simp only [Nat.zero_add] at this
        show z.2 < 61
        omega
      refine ho_cons (hs_set (d := .int ((p.1 % 2 : Nat) : Int)) 5 sc55.nd (Ev.cast (ev_mod (ev_int1 (G.no "int" (by decide)) (nv 3)) (nv 1) (by decide)) (by rw [Int.natCast_emod]; rfl))) ?_
      refine ho_post (ho_one (hs_oset (d := .int (c + p.2 * ((p.1 : Int) + 2))) (ds := ms.map .int) 2 (p.1 % 2) (ev_add (ev_ixS (no 2) (nv 5) hix) (ev_mul (nv 4) (ev_add (nv 3) ev_int) (.inr ⟨by omega, by omega⟩))) (nv 5) hj')) fun σ' H' h => ⟨ms.set (p.1 % 2) (c + p.2 * ((p.1 : Int) + 2)), by rw [List.length_set]; exact pl, ?_⟩
      rw [List.map_set]
      exact Kn.les (.keep (.keep (.keep (.skip (.skip (.skip .nil)))))) _ _ h
    refine ho_ex fun ms => ho_and fun pl => ?_
    exact ho_one (hs_retO 2 (ms := ms) ⟨by rw [pl]; exact p0, by rw [pl]; exact p2⟩ rfl)
  refine ⟨_, key, ⟨[], ok_scr hS (Nat.le_refl 6) fun i e h => ?_⟩, fun σ' H' z => z.elim, fun v H' ⟨l, ms, e, z1, z2, z3, z4, z5⟩ => by rw [e]; exact q l ms H' z1 z2 z3 z4 z5⟩
  match i with
  | 0 => exact .inl ⟨by simpa using h.symm, rfl⟩
  | 1 => exact .inr ⟨by simpa using h.symm, rfl⟩
  | 2 => simp at h
  | 3 => simp at h
  | 4 => simp at h
  | 5 => simp at h
  | i + 6 => simp at h
end
end Kl
/-! W28: the law. -/
namespace Kl
open PySem PySem.Spec PyProof.Rows L2
open C8 (Cal pe_c)
/-- data that fulfil P -/
def tDp (C : Cfg) (δ : Dl) (P : PyData → Prop) : TE := fun σ H Q => ∃ M, OkM C M δ σ H ∧ ∀ v r H', Small H' → Same H H' → P r → Rp (hid M H') v r → Q v H'
abbrev EvP (X : Cx) (C : Cfg) (δ : Dl) (e : Expr) (P : PyData → Prop) : Prop := PE X e (tDp C δ P)
section
variable {X : Cx} {C : Cfg} {δ : Dl} {a e : Expr} {es : List Expr} {pos p q qp : Pos}
/-- right(box(rows, k)) -/
theorem ev_case {j : Nat} {ds : List PyData} (C1 : Cal X.prog X.w X.K X.mg X.base 8 "_law_right" (spB 0 379 (fun _ => True) Sok) []) (C2 : Cal X.prog X.w X.K X.mg X.base 1 "_law_box" (spN 2 Dbox) []) (hr : Room j X.A) (ha : EvA X C δ (e :: es) ds) (hD : Dbox ds) (hk : 8 ≤ j := by decide) (hg : Gl X "_law_right" := by rfl) (hg2 : Gl X "_law_box" := by rfl)
    (he : starEach (e :: es) X.env = (false, eval e X.env) :: starEach es X.env := by rfl) (hpl : (backTo qp (starEach es X.env)).any (·.1) = false := by rfl)
    (he2 : starEach [Expr.Call (.Name "_law_box" q) (e :: es) [] qp] X.env = (false, eval (Expr.Call (.Name "_law_box" q) (e :: es) [] qp) X.env) :: starEach [] X.env := by rfl) (hpl2 : (backTo pos (starEach [] X.env)).any (·.1) = false := by rfl) :
    Ev X C δ (.Call (.Name "_law_right" p) [Expr.Call (.Name "_law_box" q) (e :: es) [] qp] [] pos) (.bool true) :=
  Ev.mk (pe_c C1 hr hk hg (pa_cons (pe_c C2 hr (Nat.le_trans (by decide) hk) hg2 ha (by decide) he hpl) pa_nil he2) (by decide) he2 hpl2) fun M σ H Q ok qq => ⟨M, ok, fun vs H1 sm s rs => by
    have e2 : vs.length = 2 := by
      obtain ⟨ms, k, e, _, _⟩ := hD
      rw [rs.length, e]
      rfl
    refine ⟨by rw [List.append_nil]; exact e2, M, ds, ok.trk.mono s, by rw [List.append_nil]; exact rs, hD, fun l g s' H2 s2 nl hl h0 h1 => ?_⟩
    have t2 : Trk (l :: M) H2 := fun m hm => by
      rcases List.mem_cons.mp hm with rfl | hm
      · exact ⟨_, hl, rfl⟩
      · exact (ok.trk.mono (s.trans s2)) m hm
    refine ⟨rfl, l :: M, l, [], [], 0, rfl, t2, List.mem_cons_self, ⟨g, s', 0, hl, h0, h1, by decide, by decide⟩, .nil, trivial, fun v H3 r hS sx _ rv sm3 => ?_⟩
    have er : r = .bool true := hS
    subst er
    cases rv
    exact qq _ H3 sm3 (fun a o h => sx a o (ne_of_none (s a o h) nl) (s2 a o (s a o h))) (.bl true)⟩
/-- cells(script, 2) -/
def Pcells : PyData → Prop := fun r => ∃ ms : List Int, r = .list (ms.map .int) ∧ 0 < ms.length ∧ ms.length ≤ 2
theorem ev_cells {j : Nat} {ns : List Int} {b : Expr} (C1 : Cal X.prog X.w X.K X.mg X.base 1 "_law_cells" (spCells X.K) []) (hr : Room j X.A) (ha : EvQ X C δ a (ns.map .int)) (hb : Ev X C δ b (.int 2)) (hl : ns.length ≤ 63) (hk : 1 ≤ j := by decide) (hg : Gl X "_law_cells" := by rfl) (hK : C.K = X.K := by rfl)
    (he : starEach (a :: [b]) X.env = (false, eval a X.env) :: starEach [b] X.env := by rfl) (he2 : starEach (b :: []) X.env = (false, eval b X.env) :: starEach [] X.env := by rfl) (hpl : (backTo pos (starEach [b] X.env)).any (·.1) = false := by rfl) :
    EvP X C δ (.Call (.Name "_law_cells" p) [a, b] [] pos) Pcells :=
  L2.PE.imp (L2.PE.small (pe_c C1 hr hk hg (pa_cons ha (pa_cons hb pa_nil he2) he) (by decide) he hpl)) fun σ H Q ⟨M, ok, qq⟩ => ⟨M, ok, fun l vs H1 sm s hS r => ⟨M, ok.mono s, fun v H2 sm2 s2 rv => by
    have e := r.ints
    subst e
    cases rv
    refine ⟨l, ns, rfl, by rw [← hK]; exact Same.seq s2 hS, hl, fun l2 ms H3 s3 nl hl2 h0 h2 sm3 => qq _ _ H3 sm3 ((s.trans s2).trans s3) ⟨ms, rfl, h0, h2⟩ (.lst ?_ (Rps.all (fun i => .int i) _))⟩
    rw [hid_at ((ok.mono (s.trans s2)).trk.out nl)]
    exact hl2⟩⟩
theorem hs_setP {Φ : VK} {P : PyData → Prop} (i : Nat) {x : Str} {pos' : Pos} (hN : X.N.Nodup) (he : EvP X C δ e P) (hi : X.N[i]? = some x := by rfl) (hx : Loc X.env.scope x := by first | exact Or.inl rfl | exact Or.inr rfl)
    (hs : swapsWith e (some (.Name x pos')) pos.line X.env = pure false := by rfl) (hf : X.fn x = true ∨ X.env.scope.names.lookup x = some .local := by first | exact .inl rfl | exact .inr rfl | assumption) :
    Hs X (Kn C δ) (.Assign [.Name x pos'] e pos) (fun σ H => ∃ r, P r ∧ Kn C (δ.set i (some (.dat r))) σ H) Φ :=
  (ps_set hN hi hx he hs hf).imp fun D σ H ⟨⟨M, ok⟩, q, _⟩ => ⟨M, ok, fun v r H' sm s pr rv => q _ _ ⟨r, pr, M, (ok.mono s).put rfl rv⟩⟩
end
section
variable {P : Program} {w : World} {K : PySem.W.Frag} {mg : Str → Option Value} {base : Heap}
def spLaw (K : PySem.W.Frag) : Sp := fun vs H Q _ => ∃ (a : Addr) (ns : List Int), vs = [.ref a] ∧ SqL K H a (ns.map V.int) ∧ ns.length ≤ 63 ∧ ∀ H', Q (.bl true) H'
theorem sc75 : FnScope ["_law_script", "_law_rows", "_law_k"] ["_law_script"] (defScope (topS 75)) := ⟨rfl, rfl, rfl, by decide +kernel, rfl, by decide +kernel, by decide +kernel⟩
theorem ok_law {f : Addr} {fd : FuncData} (G : Mg mg) (F : L2.Fun K "law" "law" (topS 75) f fd) (C1 : Cal P w K mg base 8 "_law_right" (spB 0 379 (fun _ => True) Sok) []) (C2 : Cal P w K mg base 1 "_law_box" (spN 2 Dbox) []) (C3 : Cal P w K mg base 1 "_law_cells" (spCells K) []) (C4 : Cal P w K mg base 8 "_law_by_hand_right" (spR 0 Shand) []) : FnOk P w K mg base CX0 9 f fd ["_law_script"] (spLaw K) := by
  refine F.ok sc75 (fun vs H Q E h => ?_) (fun cdv A outer s H vs Q E hr h => ?_)
  · obtain ⟨a, ns, rfl, _⟩ := h
    rfl
  obtain ⟨a, ns, rfl, hS, hl, q⟩ := h
  have key : Ho (cxOf CX0 P w K mg base ["_law_script", "_law_rows", "_law_k"] "law" (defScope (topS 75)) f cdv A outer s H E).nox (Kn (C0 K H) [some (.scr ns), none, none]) (defBody (topS 75)) No (Rt (C0 K H) (.bool true)) := by
    refine ho_cons (hs_setP 1 sc75.nd (ev_cells C3 hr (nScr 0) ev_int hl)) ?_
    refine ho_ex fun r => ho_and fun pr => ?_
    obtain ⟨ms, rfl, h0, h2⟩ := pr
    refine ho_one (hs_ret (Ev.cast (ev_and (k := true) (k' := ((List.range ms.length).map fun _ => true).all id) (ev_call0 (r := .bool true) C4 hr ?_) fun _ => ev_one (ev_all (bs := (List.range ms.length).map fun _ => true) (G.no "all" (by decide)) rfl (Ev.cast (ef_1 (xs := List.range ms.length) (en := fun i => .int (i : Nat)) (f := fun _ => .bool true) 2 sc75.nd
      (ei_range (G.no "range" (by decide)) (Ev.cast (ev_len (G.no "len" (by decide)) (nv 1).seqL) (by rw [List.length_map])) (Nat.le_trans h2 (by decide))) (fun _ _ _ _ _ i hi => ?_)).ev (by rw [List.map_map]; rfl)))) ?_))
    · trivial
    · exact ev_case C1 C2 hr (ea_cons (nv 1) (ea_cons (nv 2) ea_nil)) ⟨ms, i, rfl, List.mem_range.mp hi, h2⟩
    · congr 1
      simp
  refine ⟨_, key, ⟨[], ok_scr hS (Nat.le_refl 3) fun i e h => ?_⟩, fun σ' H' z => z.elim, fun v H' ⟨_, z⟩ => by cases z; exact q H'⟩
  match i with
  | 0 => exact .inl ⟨by simpa using h.symm, rfl⟩
  | 1 => simp at h
  | 2 => simp at h
  | i + 3 => simp at h
end
end Kl
/-! W29: from what the top has left to the law. -/
namespace Kl
open PySem PySem.Spec PyProof.Rows L2
open C8 (Cal pe_c)
/-- a def as the top has left it -/
structure Dk (K : PySem.W.Frag) (x : Str) (st : Stmt) : Prop where
  ex : ∃ (f : Addr) (od an : Option Addr) (sl : Array (Option Value)) (oc kV dc pm cd ct : Value), PySem.W.nsIn K mainGlobals x = some (some (.ref f)) ∧ K.lookup f = some ⟨oc, od, .func (PySem.W.fnOf x x (defArgs st) (defBody st) (defScope st) .none kV dc pm an cd ct), sl⟩ ∧ PySem.W.codeIn K cd x = true ∧ PySem.W.keepIn K (.ref f) = true
theorem dk_mk {K : PySem.W.Frag} {x : Str} {st : Stmt} {f : Addr} {od an : Option Addr} {sl : Array (Option Value)} {oc kV dc pm cd ct : Value} (a : PySem.W.nsIn K mainGlobals x = some (some (.ref f))) (l : K.lookup f = some ⟨oc, od, .func (PySem.W.fnOf x x (defArgs st) (defBody st) (defScope st) .none kV dc pm an cd ct), sl⟩) (c : PySem.W.codeIn K cd x = true) (k : PySem.W.keepIn K (.ref f) = true) : Dk K x st := ⟨f, od, an, sl, oc, kV, dc, pm, cd, ct, a, l, c, k⟩
section
variable {K : PySem.W.Frag} {h : Heap} {mg : Str → Option Value}
theorem Dk.df {x : Str} {st : Stmt} {ps : List Str} (X : K.In h) (G : h.Ns mainGlobals mg) (D : Dk K x st) (hb : ∀ (kV doc pm : Value) (an : Option Addr) (cdv ct : Value) (us : List Value), us.length = ps.length → bindArgs (PySem.W.fnOf x x (defArgs st) (defBody st) (defScope st) .none kV doc pm an cdv ct) ⟨us, []⟩ = pure (ps.zip us)) : Df K mg x ps st := by
  obtain ⟨f, od, an, sl, oc, kV, dc, pm, cd, ct, a, l, c, k⟩ := D.ex
  have F := fun_mk l c k
  exact ⟨f, _, F, PySem.W.mg_of X G a, F.binds hb⟩
/-- the constants and the built-ins -/
structure Gk (K : PySem.W.Frag) : Prop where
  g7 : ∃ t, PySem.W.nsIn K mainGlobals "WIDE" = some (some (.int 5 t))
  g11 : ∃ t, PySem.W.nsIn K mainGlobals "NAME" = some (some (.int 0 t))
  g12 : ∃ t, PySem.W.nsIn K mainGlobals "SUPPLY" = some (some (.int 1 t))
  g13 : ∃ t, PySem.W.nsIn K mainGlobals "YARD" = some (some (.int 1 t))
  g14 : ∃ t, PySem.W.nsIn K mainGlobals "START" = some (some (.int 1 t))
  g15 : ∃ t, PySem.W.nsIn K mainGlobals "GOAL" = some (some (.int 2 t))
  g16 : ∃ t, PySem.W.nsIn K mainGlobals "MOST" = some (some (.int 3 t))
  g17 : ∃ t, PySem.W.nsIn K mainGlobals "KEY" = some (some (.int 4 t))
  b0 : PySem.W.nsIn K mainGlobals "tuple" = some none
  b1 : PySem.W.nsIn K mainGlobals "list" = some none
  b2 : PySem.W.nsIn K mainGlobals "sorted" = some none
  b3 : PySem.W.nsIn K mainGlobals "set" = some none
  b4 : PySem.W.nsIn K mainGlobals "sum" = some none
  b5 : PySem.W.nsIn K mainGlobals "all" = some none
  b6 : PySem.W.nsIn K mainGlobals "any" = some none
  b7 : PySem.W.nsIn K mainGlobals "len" = some none
  b8 : PySem.W.nsIn K mainGlobals "zip" = some none
  b9 : PySem.W.nsIn K mainGlobals "enumerate" = some none
  b10 : PySem.W.nsIn K mainGlobals "range" = some none
  b11 : PySem.W.nsIn K mainGlobals "min" = some none
  b12 : PySem.W.nsIn K mainGlobals "max" = some none
  b13 : PySem.W.nsIn K mainGlobals "abs" = some none
  b14 : PySem.W.nsIn K mainGlobals "int" = some none
  b15 : PySem.W.nsIn K mainGlobals "isinstance" = some none
  b16 : PySem.W.nsIn K mainGlobals "dict" = some none
  b17 : PySem.W.nsIn K mainGlobals "bool" = some none
  b18 : PySem.W.nsIn K mainGlobals "str" = some none
theorem ik_mk {n : Str} {v : Int} {t : _} (a : PySem.W.nsIn K mainGlobals n = some (some (.int v t))) : ∃ t, PySem.W.nsIn K mainGlobals n = some (some (.int v t)) := ⟨t, a⟩
theorem Gk.toMg (X : K.In h) (G : h.Ns mainGlobals mg) (g : Gk K) : Mg mg := by
  have z : ∀ {n : Str} {v : Int}, (∃ t, PySem.W.nsIn K mainGlobals n = some (some (.int v t))) → ∃ t, mg n = some (.int v t) := fun ⟨t, e⟩ => ⟨t, PySem.W.mg_of X G e⟩
  refine ⟨fun x hx => ?_, z g.g7, z g.g11, z g.g12, z g.g13, z g.g14, z g.g15, z g.g16, z g.g17⟩
  unfold blts at hx
  simp only [List.mem_cons, List.not_mem_nil, or_false] at hx
  rcases hx with rfl | rfl | rfl | rfl | rfl | rfl | rfl | rfl | rfl | rfl | rfl | rfl | rfl | rfl | rfl | rfl | rfl | rfl | rfl
  · exact PySem.W.mg_none_of X G g.b0
  · exact PySem.W.mg_none_of X G g.b1
  · exact PySem.W.mg_none_of X G g.b2
  · exact PySem.W.mg_none_of X G g.b3
  · exact PySem.W.mg_none_of X G g.b4
  · exact PySem.W.mg_none_of X G g.b5
  · exact PySem.W.mg_none_of X G g.b6
  · exact PySem.W.mg_none_of X G g.b7
  · exact PySem.W.mg_none_of X G g.b8
  · exact PySem.W.mg_none_of X G g.b9
  · exact PySem.W.mg_none_of X G g.b10
  · exact PySem.W.mg_none_of X G g.b11
  · exact PySem.W.mg_none_of X G g.b12
  · exact PySem.W.mg_none_of X G g.b13
  · exact PySem.W.mg_none_of X G g.b14
  · exact PySem.W.mg_none_of X G g.b15
  · exact PySem.W.mg_none_of X G g.b16
  · exact PySem.W.mg_none_of X G g.b17
  · exact PySem.W.mg_none_of X G g.b18
end
theorem all_mk {P : Program} {w : World} {K : PySem.W.Frag} {h : Heap} {mg : Str → Option Value} {fa : Addr} (X : K.In h) (G : h.Ns mainGlobals mg) (hfa : mg "law" = some (.ref fa)) (g : Gk K)
    (d4 : Dk K "set_of" (topS 4)) (d5 : Dk K "tupled" (topS 5)) (d8 : Dk K "yard_names" (topS 8)) (d9 : Dk K "keys_of" (topS 9)) (d18 : Dk K "subsets_of" (topS 18)) (d19 : Dk K "value_of" (topS 19)) (d20 : Dk K "values_by" (topS 20)) (d21 : Dk K "part_in" (topS 21)) (d22 : Dk K "goes_by" (topS 22)) (d23 : Dk K "goes" (topS 23)) (d25 : Dk K "people_in" (topS 25)) (d26 : Dk K "check_people" (topS 26)) (d27 : Dk K "held_by" (topS 27)) (d28 : Dk K "keys_held" (topS 28)) (d29 : Dk K "people_but" (topS 29)) (d30 : Dk K "sends" (topS 30)) (d31 : Dk K "stops" (topS 31)) (d32 : Dk K "send_table" (topS 32)) (d33 : Dk K "all_in_group" (topS 33)) (d34 : Dk K "leasts_of" (topS 34)) (d35 : Dk K "senders" (topS 35)) (d36 : Dk K "stoppers" (topS 36)) (d37 : Dk K "apart" (topS 37)) (d38 : Dk K "with_one" (topS 38)) (d39 : Dk K "times_decided" (topS 39)) (d40 : Dk K "decided" (topS 40)) (d41 : Dk K "idle_people" (topS 41)) (d42 : Dk K "keys_wanted" (topS 42)) (d43 : Dk K "fewest_hands" (topS 43)) (d45 : Dk K "is_within" (topS 45)) (d46 : Dk K "leasts" (topS 46)) (d47 : Dk K "others_of" (topS 47)) (d48 : Dk K "table_of" (topS 48)) (d49 : Dk K "sets_open" (topS 49)) (d50 : Dk K "openers" (topS 50)) (d51 : Dk K "barriers" (topS 51)) (d53 : Dk K "_law_box" (topS 53)) (d54 : Dk K "_law_take" (topS 54)) (d55 : Dk K "_law_cells" (topS 55)) (d56 : Dk K "_law_of" (topS 56)) (d57 : Dk K "_law_pick" (topS 57)) (d58 : Dk K "_law_same" (topS 58)) (d59 : Dk K "_law_sets" (topS 59)) (d60 : Dk K "_law_have" (topS 60)) (d61 : Dk K "_law_want" (topS 61)) (d62 : Dk K "_law_go" (topS 62)) (d63 : Dk K "_law_purse" (topS 63)) (d64 : Dk K "_law_rest" (topS 64)) (d65 : Dk K "_law_lean" (topS 65)) (d66 : Dk K "_law_dock" (topS 66)) (d67 : Dk K "_law_web" (topS 67)) (d68 : Dk K "_law_crew" (topS 68)) (d69 : Dk K "_law_bits" (topS 69)) (d70 : Dk K "_law_meet" (topS 70)) (d71 : Dk K "_law_wanted" (topS 71)) (d72 : Dk K "_law_case_right" (topS 72)) (d73 : Dk K "_law_by_hand_right" (topS 73)) (d74 : Dk K "_law_right" (topS 74)) (d75 : Dk K "law" (topS 75)) :
    ∃ fd : FuncData, (∀ (s : Shared) (v : Value), BindsTo s fd ⟨[v], []⟩ [("_law_script", v)]) ∧ ∀ base : Heap, K.In base → base.Ns mainGlobals mg → FnOk P w K mg base CX0 9 fa fd ["_law_script"] (spLaw K) := by
  have F4 : Df K mg "set_of" ["some"] (topS 4) := d4.df X G fun _ _ _ _ _ _ us hl => match us, hl with | [_], _ => rfl
  have F5 : Df K mg "tupled" ["value"] (topS 5) := d5.df X G fun _ _ _ _ _ _ us hl => match us, hl with | [_], _ => rfl
  have F8 : Df K mg "yard_names" ["net"] (topS 8) := d8.df X G fun _ _ _ _ _ _ us hl => match us, hl with | [_], _ => rfl
  have F9 : Df K mg "keys_of" ["net"] (topS 9) := d9.df X G fun _ _ _ _ _ _ us hl => match us, hl with | [_], _ => rfl
  have F18 : Df K mg "subsets_of" ["names"] (topS 18) := d18.df X G fun _ _ _ _ _ _ us hl => match us, hl with | [_], _ => rfl
  have F19 : Df K mg "value_of" ["net", "keys", "far"] (topS 19) := d19.df X G fun _ _ _ _ _ _ us hl => match us, hl with | [_, _, _], _ => rfl
  have F20 : Df K mg "values_by" ["net", "keys"] (topS 20) := d20.df X G fun _ _ _ _ _ _ us hl => match us, hl with | [_, _], _ => rfl
  have F21 : Df K mg "part_in" ["net", "lot", "far"] (topS 21) := d21.df X G fun _ _ _ _ _ _ us hl => match us, hl with | [_, _, _], _ => rfl
  have F22 : Df K mg "goes_by" ["net", "values", "lot"] (topS 22) := d22.df X G fun _ _ _ _ _ _ us hl => match us, hl with | [_, _, _], _ => rfl
  have F23 : Df K mg "goes" ["net", "keys", "lot"] (topS 23) := d23.df X G fun _ _ _ _ _ _ us hl => match us, hl with | [_, _, _], _ => rfl
  have F25 : Df K mg "people_in" ["holders"] (topS 25) := d25.df X G fun _ _ _ _ _ _ us hl => match us, hl with | [_], _ => rfl
  have F26 : Df K mg "check_people" ["holders", "names"] (topS 26) := d26.df X G fun _ _ _ _ _ _ us hl => match us, hl with | [_, _], _ => rfl
  have F27 : Df K mg "held_by" ["holders", "group"] (topS 27) := d27.df X G fun _ _ _ _ _ _ us hl => match us, hl with | [_, _], _ => rfl
  have F28 : Df K mg "keys_held" ["holders", "group"] (topS 28) := d28.df X G fun _ _ _ _ _ _ us hl => match us, hl with | [_, _], _ => rfl
  have F29 : Df K mg "people_but" ["holders", "group"] (topS 29) := d29.df X G fun _ _ _ _ _ _ us hl => match us, hl with | [_, _], _ => rfl
  have F30 : Df K mg "sends" ["net", "holders", "lot", "group"] (topS 30) := d30.df X G fun _ _ _ _ _ _ us hl => match us, hl with | [_, _, _, _], _ => rfl
  have F31 : Df K mg "stops" ["net", "holders", "lot", "group"] (topS 31) := d31.df X G fun _ _ _ _ _ _ us hl => match us, hl with | [_, _, _, _], _ => rfl
  have F32 : Df K mg "send_table" ["net", "holders", "lot"] (topS 32) := d32.df X G fun _ _ _ _ _ _ us hl => match us, hl with | [_, _, _], _ => rfl
  have F33 : Df K mg "all_in_group" ["one", "other"] (topS 33) := d33.df X G fun _ _ _ _ _ _ us hl => match us, hl with | [_, _], _ => rfl
  have F34 : Df K mg "leasts_of" ["groups"] (topS 34) := d34.df X G fun _ _ _ _ _ _ us hl => match us, hl with | [_], _ => rfl
  have F35 : Df K mg "senders" ["net", "holders", "lot"] (topS 35) := d35.df X G fun _ _ _ _ _ _ us hl => match us, hl with | [_, _, _], _ => rfl
  have F36 : Df K mg "stoppers" ["net", "holders", "lot"] (topS 36) := d36.df X G fun _ _ _ _ _ _ us hl => match us, hl with | [_, _, _], _ => rfl
  have F37 : Df K mg "apart" ["net", "holders", "lot"] (topS 37) := d37.df X G fun _ _ _ _ _ _ us hl => match us, hl with | [_, _, _], _ => rfl
  have F38 : Df K mg "with_one" ["group", "person"] (topS 38) := d38.df X G fun _ _ _ _ _ _ us hl => match us, hl with | [_, _], _ => rfl
  have F39 : Df K mg "times_decided" ["table", "person"] (topS 39) := d39.df X G fun _ _ _ _ _ _ us hl => match us, hl with | [_, _], _ => rfl
  have F40 : Df K mg "decided" ["net", "holders", "lot", "person"] (topS 40) := d40.df X G fun _ _ _ _ _ _ us hl => match us, hl with | [_, _, _, _], _ => rfl
  have F41 : Df K mg "idle_people" ["net", "holders", "lot"] (topS 41) := d41.df X G fun _ _ _ _ _ _ us hl => match us, hl with | [_, _, _], _ => rfl
  have F42 : Df K mg "keys_wanted" ["net", "holders", "lot", "group"] (topS 42) := d42.df X G fun _ _ _ _ _ _ us hl => match us, hl with | [_, _, _, _], _ => rfl
  have F43 : Df K mg "fewest_hands" ["net", "holders", "lot", "group"] (topS 43) := d43.df X G fun _ _ _ _ _ _ us hl => match us, hl with | [_, _, _, _], _ => rfl
  have F45 : Df K mg "is_within" ["some", "other"] (topS 45) := d45.df X G fun _ _ _ _ _ _ us hl => match us, hl with | [_, _], _ => rfl
  have F46 : Df K mg "leasts" ["family"] (topS 46) := d46.df X G fun _ _ _ _ _ _ us hl => match us, hl with | [_], _ => rfl
  have F47 : Df K mg "others_of" ["net", "keys"] (topS 47) := d47.df X G fun _ _ _ _ _ _ us hl => match us, hl with | [_, _], _ => rfl
  have F48 : Df K mg "table_of" ["net", "lot"] (topS 48) := d48.df X G fun _ _ _ _ _ _ us hl => match us, hl with | [_, _], _ => rfl
  have F49 : Df K mg "sets_open" ["net", "lot"] (topS 49) := d49.df X G fun _ _ _ _ _ _ us hl => match us, hl with | [_, _], _ => rfl
  have F50 : Df K mg "openers" ["net", "lot"] (topS 50) := d50.df X G fun _ _ _ _ _ _ us hl => match us, hl with | [_, _], _ => rfl
  have F51 : Df K mg "barriers" ["net", "lot"] (topS 51) := d51.df X G fun _ _ _ _ _ _ us hl => match us, hl with | [_, _], _ => rfl
  have F53 : Df K mg "_law_box" ["_law_script", "_law_k"] (topS 53) := d53.df X G fun _ _ _ _ _ _ us hl => match us, hl with | [_, _], _ => rfl
  have F54 : Df K mg "_law_take" ["_law_box_here", "_law_size_so"] (topS 54) := d54.df X G fun _ _ _ _ _ _ us hl => match us, hl with | [_, _], _ => rfl
  have F55 : Df K mg "_law_cells" ["_law_script", "_law_top_so"] (topS 55) := d55.df X G fun _ _ _ _ _ _ us hl => match us, hl with | [_, _], _ => rfl
  have F56 : Df K mg "_law_of" ["_law_box_here", "_law_goods_so"] (topS 56) := d56.df X G fun _ _ _ _ _ _ us hl => match us, hl with | [_, _], _ => rfl
  have F57 : Df K mg "_law_pick" ["_law_box_here", "_law_goods_so", "_law_count_so"] (topS 57) := d57.df X G fun _ _ _ _ _ _ us hl => match us, hl with | [_, _, _], _ => rfl
  have F58 : Df K mg "_law_same" ["_law_mine", "_law_due"] (topS 58) := d58.df X G fun _ _ _ _ _ _ us hl => match us, hl with | [_, _], _ => rfl
  have F59 : Df K mg "_law_sets" ["_law_goods_so"] (topS 59) := d59.df X G fun _ _ _ _ _ _ us hl => match us, hl with | [_], _ => rfl
  have F60 : Df K mg "_law_have" ["_law_web_here", "_law_kit", "_law_some_so"] (topS 60) := d60.df X G fun _ _ _ _ _ _ us hl => match us, hl with | [_, _, _], _ => rfl
  have F61 : Df K mg "_law_want" ["_law_web_here", "_law_bits_so", "_law_some_so"] (topS 61) := d61.df X G fun _ _ _ _ _ _ us hl => match us, hl with | [_, _, _], _ => rfl
  have F62 : Df K mg "_law_go" ["_law_web_here", "_law_kit", "_law_bits_so"] (topS 62) := d62.df X G fun _ _ _ _ _ _ us hl => match us, hl with | [_, _, _], _ => rfl
  have F63 : Df K mg "_law_purse" ["_law_crew_here", "_law_band"] (topS 63) := d63.df X G fun _ _ _ _ _ _ us hl => match us, hl with | [_, _], _ => rfl
  have F64 : Df K mg "_law_rest" ["_law_crew_here", "_law_band"] (topS 64) := d64.df X G fun _ _ _ _ _ _ us hl => match us, hl with | [_, _], _ => rfl
  have F65 : Df K mg "_law_lean" ["_law_bands"] (topS 65) := d65.df X G fun _ _ _ _ _ _ us hl => match us, hl with | [_], _ => rfl
  have F66 : Df K mg "_law_dock" [] (topS 66) := d66.df X G fun _ _ _ _ _ _ us hl => match us, hl with | [], _ => rfl
  have F67 : Df K mg "_law_web" ["_law_box_here"] (topS 67) := d67.df X G fun _ _ _ _ _ _ us hl => match us, hl with | [_], _ => rfl
  have F68 : Df K mg "_law_crew" ["_law_box_here", "_law_web_here"] (topS 68) := d68.df X G fun _ _ _ _ _ _ us hl => match us, hl with | [_, _], _ => rfl
  have F69 : Df K mg "_law_bits" ["_law_box_here", "_law_web_here", "_law_kit"] (topS 69) := d69.df X G fun _ _ _ _ _ _ us hl => match us, hl with | [_, _, _], _ => rfl
  have F70 : Df K mg "_law_meet" ["_law_lots_so", "_law_tags"] (topS 70) := d70.df X G fun _ _ _ _ _ _ us hl => match us, hl with | [_, _], _ => rfl
  have F71 : Df K mg "_law_wanted" ["_law_opens_so", "_law_crew_here", "_law_band"] (topS 71) := d71.df X G fun _ _ _ _ _ _ us hl => match us, hl with | [_, _, _], _ => rfl
  have F72 : Df K mg "_law_case_right" ["_law_web_here", "_law_crew_here", "_law_bits_so"] (topS 72) := d72.df X G fun _ _ _ _ _ _ us hl => match us, hl with | [_, _, _], _ => rfl
  have F73 : Df K mg "_law_by_hand_right" [] (topS 73) := d73.df X G fun _ _ _ _ _ _ us hl => match us, hl with | [], _ => rfl
  have F74 : Df K mg "_law_right" ["_law_box_here"] (topS 74) := d74.df X G fun _ _ _ _ _ _ us hl => match us, hl with | [_], _ => rfl
  have M := g.toMg X G
  obtain ⟨f, od, an, sl, oc, kV, dc, pm, cd, ct, a, l, c, k⟩ := d75.ex
  have e := hfa.symm.trans (PySem.W.mg_of X G a)
  cases e
  have FL := fun_mk (st := topS 75) l c k
  refine ⟨PySem.W.fnOf "law" "law" (defArgs (topS 75)) (defBody (topS 75)) (defScope (topS 75)) .none kV dc pm an cd ct, fun s v => .of_eq rfl, fun base _ _ => ?_⟩
  have setof := c_setof (P := P) (w := w) (base := base) M F4
  have tup0 := c_tup0 (P := P) (w := w) (base := base) M F5
  have tup1 := c_tup1 (P := P) (w := w) (base := base) M F5 tup0
  have tup2 := c_tup2 (P := P) (w := w) (base := base) M F5 tup1
  have yardN := c_yardN (P := P) (w := w) (base := base) M F8
  have keysOf := c_keysOf (P := P) (w := w) (base := base) M F9 setof
  have subs := c_subs (P := P) (w := w) (base := base) M F18
  have valOf := c_valOf (P := P) (w := w) (base := base) M F19
  have valBy := c_valBy (P := P) (w := w) (base := base) M F20 valOf subs yardN
  have partIn := c_partIn (P := P) (w := w) (base := base) M F21
  have goesBy := c_goesBy (P := P) (w := w) (base := base) M F22 partIn
  have goes := c_goes (P := P) (w := w) (base := base) F23 goesBy valBy
  have pIn := c_peopleIn (P := P) (w := w) (base := base) M F25
  have chk := c_check (P := P) (w := w) (base := base) F26 pIn
  have hBy := c_heldBy (P := P) (w := w) (base := base) F27 setof
  have kH := c_keysHeld (P := P) (w := w) (base := base) F28 chk hBy
  have but := c_but (P := P) (w := w) (base := base) M F29 pIn
  have snd := c_sends (P := P) (w := w) (base := base) F30 goes kH
  have stp := c_stops (P := P) (w := w) (base := base) F31 chk snd but
  have tab := c_sendTab (P := P) (w := w) (base := base) M F32 subs pIn hBy goes
  have allIn := c_allIn (P := P) (w := w) (base := base) M F33
  have lOf := c_leastsOf (P := P) (w := w) (base := base) M F34 allIn
  have sndrs := c_senders (P := P) (w := w) (base := base) F35 tab lOf
  have stprs := c_stoppers (P := P) (w := w) (base := base) F36 tab lOf but
  have apt := c_apart (P := P) (w := w) (base := base) M F37 tab but
  have wOne := c_withOne (P := P) (w := w) (base := base) F38 setof
  have tms := c_times (P := P) (w := w) (base := base) M F39 wOne
  have dec := c_decided (P := P) (w := w) (base := base) F40 chk tms tab
  have idl := c_idle (P := P) (w := w) (base := base) M F41 tab tms pIn
  have wnt := c_wanted (P := P) (w := w) (base := base) M F42 hBy pIn keysOf subs goes setof
  have few := c_fewest (P := P) (w := w) (base := base) M F43 chk wnt
  have wth := c_within (P := P) (w := w) (base := base) M F45
  have lea := c_leasts (P := P) (w := w) (base := base) M F46 setof tup2 wth
  have oth := c_others (P := P) (w := w) (base := base) M F47 keysOf
  have tOf := c_tableOf (P := P) (w := w) (base := base) F48 goes subs keysOf
  have sOp := c_setsOpen (P := P) (w := w) (base := base) F49 tOf
  have ops := c_openers (P := P) (w := w) (base := base) F50 sOp lea
  have bars := c_barriers (P := P) (w := w) (base := base) F51 tOf lea oth
  have lsets := c_lsets (P := P) (w := w) (base := base) M F59
  have purse := c_purse (P := P) (w := w) (base := base) M F63
  have rest := c_rest (P := P) (w := w) (base := base) M F64
  have lean := c_lean (P := P) (w := w) (base := base) M F65
  have meet := c_meet (P := P) (w := w) (base := base) M F70 lsets lean
  have lwant := c_lwanted (P := P) (w := w) (base := base) M F71 purse
  have dock := c_dock (P := P) (w := w) (base := base) F66
  have tk := c_take (P := P) (w := w) (base := base) M F54
  have lof := c_of (P := P) (w := w) (base := base) M F56 tk
  have pck := c_pick (P := P) (w := w) (base := base) M F57 tk
  have have_ := c_have (P := P) (w := w) (base := base) M F60
  have want_ := c_want (P := P) (w := w) (base := base) M F61
  have lgo := c_lgo (P := P) (w := w) (base := base) M F62 lsets have_ want_
  have bits := c_bits (P := P) (w := w) (base := base) M F69 tk lof pck lgo
  have web := c_web (P := P) (w := w) (base := base) M F67 tk lof pck
  have crew := c_crew (P := P) (w := w) (base := base) M F68 tk lof pck
  have same3 := c_same (P := P) (w := w) (base := base) M F58 3
  have cse := c_case (P := P) (w := w) (base := base) M F72 ops bars lsets purse rest snd stp few lwant sndrs stprs apt idl meet dec same3
  have hand := c_hand (P := P) (w := w) (base := base) M F73 dock ops bars few sndrs stprs apt meet same3 cse
  have rgt := c_right (P := P) (w := w) (base := base) M F74 web crew bits purse cse
  have bxx := c_box (P := P) (w := w) (base := base) M F53
  have cls := c_cells (P := P) (w := w) (base := base) M F55
  exact ok_law M FL rgt bxx cls hand
end Kl
open PySem PySem.W PyProof.Rows
set_option maxHeartbeats 0 in
theorem PySem.Challenge.cw_keyedlines_k77_whole_groups_by_openers_a_holds : PySem.Challenge.rw_keyedlines_k77_whole_groups_by_openers_a.Holds := by
  w_on; o_law; k_head; (case hw => w_witness2)
  k_fill
  refine L2.walk_of (l := PySem.Challenge.rw_keyedlines_k77_whole_groups_by_openers_a) (n := 63) (k := 9) (x := "_law_script") (CX := fun _ => L2.CX0) (sp := fun w => Kl.spLaw _) rfl (by decide) rfl ⟨rfl, by decide, by decide⟩ (fun w h Y => PySem.W.kIn_of Y) ?F (fun _ _ a ns hl _ hS => ⟨a, ns, rfl, hS, hl, fun _ => rfl⟩) (fun _ _ _ _ _ h => h)
  case F =>
    intro w mg fa h KX G hmg
    refine' Kl.all_mk KX G hmg ?g ?d4 ?d5 ?d8 ?d9 ?d18 ?d19 ?d20 ?d21 ?d22 ?d23 ?d25 ?d26 ?d27 ?d28 ?d29 ?d30 ?d31 ?d32 ?d33 ?d34 ?d35 ?d36 ?d37 ?d38 ?d39 ?d40 ?d41 ?d42 ?d43 ?d45 ?d46 ?d47 ?d48 ?d49 ?d50 ?d51 ?d53 ?d54 ?d55 ?d56 ?d57 ?d58 ?d59 ?d60 ?d61 ?d62 ?d63 ?d64 ?d65 ?d66 ?d67 ?d68 ?d69 ?d70 ?d71 ?d72 ?d73 ?d74 ?d75
    case g =>
      refine' ⟨Kl.ik_mk ?g7, Kl.ik_mk ?g11, Kl.ik_mk ?g12, Kl.ik_mk ?g13, Kl.ik_mk ?g14, Kl.ik_mk ?g15, Kl.ik_mk ?g16, Kl.ik_mk ?g17, ?b0, ?b1, ?b2, ?b3, ?b4, ?b5, ?b6, ?b7, ?b8, ?b9, ?b10, ?b11, ?b12, ?b13, ?b14, ?b15, ?b16, ?b17, ?b18⟩
      (case g7 => k_is); (case g11 => k_is); (case g12 => k_is); (case g13 => k_is); (case g14 => k_is); (case g15 => k_is); (case g16 => k_is); (case g17 => k_is); (case b0 => k_is); (case b1 => k_is); (case b2 => k_is); (case b3 => k_is); (case b4 => k_is); (case b5 => k_is); (case b6 => k_is); (case b7 => k_is); (case b8 => k_is); (case b9 => k_is); (case b10 => k_is); (case b11 => k_is); (case b12 => k_is); (case b13 => k_is); (case b14 => k_is); (case b15 => k_is); (case b16 => k_is); (case b17 => k_is); (case b18 => k_is)
    case d4 => (refine' Kl.dk_mk ?a ?l ?c ?k; (case a => k_is); (case l => k_is); (case c => k_is); (case k => k_is))
    case d5 => (refine' Kl.dk_mk ?a ?l ?c ?k; (case a => k_is); (case l => k_is); (case c => k_is); (case k => k_is))
    case d8 => (refine' Kl.dk_mk ?a ?l ?c ?k; (case a => k_is); (case l => k_is); (case c => k_is); (case k => k_is))
    case d9 => (refine' Kl.dk_mk ?a ?l ?c ?k; (case a => k_is); (case l => k_is); (case c => k_is); (case k => k_is))
    case d18 => (refine' Kl.dk_mk ?a ?l ?c ?k; (case a => k_is); (case l => k_is); (case c => k_is); (case k => k_is))
    case d19 => (refine' Kl.dk_mk ?a ?l ?c ?k; (case a => k_is); (case l => k_is); (case c => k_is); (case k => k_is))
    case d20 => (refine' Kl.dk_mk ?a ?l ?c ?k; (case a => k_is); (case l => k_is); (case c => k_is); (case k => k_is))
    case d21 => (refine' Kl.dk_mk ?a ?l ?c ?k; (case a => k_is); (case l => k_is); (case c => k_is); (case k => k_is))
    case d22 => (refine' Kl.dk_mk ?a ?l ?c ?k; (case a => k_is); (case l => k_is); (case c => k_is); (case k => k_is))
    case d23 => (refine' Kl.dk_mk ?a ?l ?c ?k; (case a => k_is); (case l => k_is); (case c => k_is); (case k => k_is))
    case d25 => (refine' Kl.dk_mk ?a ?l ?c ?k; (case a => k_is); (case l => k_is); (case c => k_is); (case k => k_is))
    case d26 => (refine' Kl.dk_mk ?a ?l ?c ?k; (case a => k_is); (case l => k_is); (case c => k_is); (case k => k_is))
    case d27 => (refine' Kl.dk_mk ?a ?l ?c ?k; (case a => k_is); (case l => k_is); (case c => k_is); (case k => k_is))
    case d28 => (refine' Kl.dk_mk ?a ?l ?c ?k; (case a => k_is); (case l => k_is); (case c => k_is); (case k => k_is))
    case d29 => (refine' Kl.dk_mk ?a ?l ?c ?k; (case a => k_is); (case l => k_is); (case c => k_is); (case k => k_is))
    case d30 => (refine' Kl.dk_mk ?a ?l ?c ?k; (case a => k_is); (case l => k_is); (case c => k_is); (case k => k_is))
    case d31 => (refine' Kl.dk_mk ?a ?l ?c ?k; (case a => k_is); (case l => k_is); (case c => k_is); (case k => k_is))
    case d32 => (refine' Kl.dk_mk ?a ?l ?c ?k; (case a => k_is); (case l => k_is); (case c => k_is); (case k => k_is))
    case d33 => (refine' Kl.dk_mk ?a ?l ?c ?k; (case a => k_is); (case l => k_is); (case c => k_is); (case k => k_is))
    case d34 => (refine' Kl.dk_mk ?a ?l ?c ?k; (case a => k_is); (case l => k_is); (case c => k_is); (case k => k_is))
    case d35 => (refine' Kl.dk_mk ?a ?l ?c ?k; (case a => k_is); (case l => k_is); (case c => k_is); (case k => k_is))
    case d36 => (refine' Kl.dk_mk ?a ?l ?c ?k; (case a => k_is); (case l => k_is); (case c => k_is); (case k => k_is))
    case d37 => (refine' Kl.dk_mk ?a ?l ?c ?k; (case a => k_is); (case l => k_is); (case c => k_is); (case k => k_is))
    case d38 => (refine' Kl.dk_mk ?a ?l ?c ?k; (case a => k_is); (case l => k_is); (case c => k_is); (case k => k_is))
    case d39 => (refine' Kl.dk_mk ?a ?l ?c ?k; (case a => k_is); (case l => k_is); (case c => k_is); (case k => k_is))
    case d40 => (refine' Kl.dk_mk ?a ?l ?c ?k; (case a => k_is); (case l => k_is); (case c => k_is); (case k => k_is))
    case d41 => (refine' Kl.dk_mk ?a ?l ?c ?k; (case a => k_is); (case l => k_is); (case c => k_is); (case k => k_is))
    case d42 => (refine' Kl.dk_mk ?a ?l ?c ?k; (case a => k_is); (case l => k_is); (case c => k_is); (case k => k_is))
    case d43 => (refine' Kl.dk_mk ?a ?l ?c ?k; (case a => k_is); (case l => k_is); (case c => k_is); (case k => k_is))
    case d45 => (refine' Kl.dk_mk ?a ?l ?c ?k; (case a => k_is); (case l => k_is); (case c => k_is); (case k => k_is))
    case d46 => (refine' Kl.dk_mk ?a ?l ?c ?k; (case a => k_is); (case l => k_is); (case c => k_is); (case k => k_is))
    case d47 => (refine' Kl.dk_mk ?a ?l ?c ?k; (case a => k_is); (case l => k_is); (case c => k_is); (case k => k_is))
    case d48 => (refine' Kl.dk_mk ?a ?l ?c ?k; (case a => k_is); (case l => k_is); (case c => k_is); (case k => k_is))
    case d49 => (refine' Kl.dk_mk ?a ?l ?c ?k; (case a => k_is); (case l => k_is); (case c => k_is); (case k => k_is))
    case d50 => (refine' Kl.dk_mk ?a ?l ?c ?k; (case a => k_is); (case l => k_is); (case c => k_is); (case k => k_is))
    case d51 => (refine' Kl.dk_mk ?a ?l ?c ?k; (case a => k_is); (case l => k_is); (case c => k_is); (case k => k_is))
    case d53 => (refine' Kl.dk_mk ?a ?l ?c ?k; (case a => k_is); (case l => k_is); (case c => k_is); (case k => k_is))
    case d54 => (refine' Kl.dk_mk ?a ?l ?c ?k; (case a => k_is); (case l => k_is); (case c => k_is); (case k => k_is))
    case d55 => (refine' Kl.dk_mk ?a ?l ?c ?k; (case a => k_is); (case l => k_is); (case c => k_is); (case k => k_is))
    case d56 => (refine' Kl.dk_mk ?a ?l ?c ?k; (case a => k_is); (case l => k_is); (case c => k_is); (case k => k_is))
    case d57 => (refine' Kl.dk_mk ?a ?l ?c ?k; (case a => k_is); (case l => k_is); (case c => k_is); (case k => k_is))
    case d58 => (refine' Kl.dk_mk ?a ?l ?c ?k; (case a => k_is); (case l => k_is); (case c => k_is); (case k => k_is))
    case d59 => (refine' Kl.dk_mk ?a ?l ?c ?k; (case a => k_is); (case l => k_is); (case c => k_is); (case k => k_is))
    case d60 => (refine' Kl.dk_mk ?a ?l ?c ?k; (case a => k_is); (case l => k_is); (case c => k_is); (case k => k_is))
    case d61 => (refine' Kl.dk_mk ?a ?l ?c ?k; (case a => k_is); (case l => k_is); (case c => k_is); (case k => k_is))
    case d62 => (refine' Kl.dk_mk ?a ?l ?c ?k; (case a => k_is); (case l => k_is); (case c => k_is); (case k => k_is))
    case d63 => (refine' Kl.dk_mk ?a ?l ?c ?k; (case a => k_is); (case l => k_is); (case c => k_is); (case k => k_is))
    case d64 => (refine' Kl.dk_mk ?a ?l ?c ?k; (case a => k_is); (case l => k_is); (case c => k_is); (case k => k_is))
    case d65 => (refine' Kl.dk_mk ?a ?l ?c ?k; (case a => k_is); (case l => k_is); (case c => k_is); (case k => k_is))
    case d66 => (refine' Kl.dk_mk ?a ?l ?c ?k; (case a => k_is); (case l => k_is); (case c => k_is); (case k => k_is))
    case d67 => (refine' Kl.dk_mk ?a ?l ?c ?k; (case a => k_is); (case l => k_is); (case c => k_is); (case k => k_is))
    case d68 => (refine' Kl.dk_mk ?a ?l ?c ?k; (case a => k_is); (case l => k_is); (case c => k_is); (case k => k_is))
    case d69 => (refine' Kl.dk_mk ?a ?l ?c ?k; (case a => k_is); (case l => k_is); (case c => k_is); (case k => k_is))
    case d70 => (refine' Kl.dk_mk ?a ?l ?c ?k; (case a => k_is); (case l => k_is); (case c => k_is); (case k => k_is))
    case d71 => (refine' Kl.dk_mk ?a ?l ?c ?k; (case a => k_is); (case l => k_is); (case c => k_is); (case k => k_is))
    case d72 => (refine' Kl.dk_mk ?a ?l ?c ?k; (case a => k_is); (case l => k_is); (case c => k_is); (case k => k_is))
    case d73 => (refine' Kl.dk_mk ?a ?l ?c ?k; (case a => k_is); (case l => k_is); (case c => k_is); (case k => k_is))
    case d74 => (refine' Kl.dk_mk ?a ?l ?c ?k; (case a => k_is); (case l => k_is); (case c => k_is); (case k => k_is))
    case d75 => (refine' Kl.dk_mk ?a ?l ?c ?k; (case a => k_is); (case l => k_is); (case c => k_is); (case k => k_is))
