import PyProof.Rows.All
import Wide.All
import OpenK.AllK
import Wide.FinOn
import KE.KStateDown
import Lean
import HandS.Base
import HandS.Call
import HandS.Ends
import HandS.More
import HandS.Words
import HandS.WordsExc
import HandS.Defaults
import HandS.Head0
import HandS.Head1
import HandS.Head2
import HandS.HeadEnd
import HandS.HeadHook1
import HandS.HeadHook2
import HandS.ForMost
import HandS.Flow
import HandS.Style
import HandS.Conv
import HandS.Star
import HandS.Strs
import HandS.IsInst
import HandS.TupAny
import HandS.TupLe
import HandS.Zip
import HandS.Sort
import HandS.SortRule
import HandS.SortInts
import HandS.Wide
import HandS.Walk
import HandS.SetFor
import PySem.Challenge.RW_leapsofone_k56_whole_ways_and_powers_by
set_option Elab.async false
set_option linter.all false
set_option maxRecDepth 100000
set_option maxHeartbeats 2000000
/-! Lp: a program's data without the heap: what a reading does to an abstract state (slots as data, or as lists and dicts that this def alone holds). -/
namespace Lp
open PySem PySem.Spec PyProof.Rows L2
/-! ### data in a heap -/
mutual
inductive Rp (F : Hp) : V → PyData → Prop
  | non : Rp F .non .none
  | bl (b : Bool) : Rp F (.bl b) (.bool b)
  | int (i : Int) : Rp F (.int i) (.int i)
  | str (x : Str) : Rp F (.str x) (.str x)
  | lst {a : Addr} {xs : List V} {ds : List PyData} : F a = some (.lst xs) → RpA F xs ds → Rp F (.ref a) (.list ds)
  | tup {a : Addr} {xs : List V} {ds : List PyData} : F a = some (.tup xs) → RpA F xs ds → Rp F (.ref a) (.tuple ds)
inductive RpA (F : Hp) : List V → List PyData → Prop
  | nil : RpA F [] []
  | cons {v : V} {vs : List V} {d : PyData} {ds : List PyData} : Rp F v d → RpA F vs ds → RpA F (v :: vs) (d :: ds)
end
mutual
theorem Rp.mono {F F' : Hp} (e : Same F F') : ∀ {v : V} (d : PyData), Rp F v d → Rp F' v d
  | _, .none, h => by cases h; exact .non
  | _, .bool b, h => by cases h; exact .bl b
  | _, .int i, h => by cases h; exact .int i
  | _, .str x, h => by cases h; exact .str x
  | _, .list ds, h => by
    cases h with
    | lst a b => exact .lst (e _ _ a) (RpA.mono e ds b)
  | _, .tuple ds, h => by
    cases h with
    | tup a b => exact .tup (e _ _ a) (RpA.mono e ds b)
  | _, .dict _, h => by cases h
theorem RpA.mono {F F' : Hp} (e : Same F F') : ∀ {vs : List V} (ds : List PyData), RpA F vs ds → RpA F' vs ds
  | _, [], h => by cases h; exact .nil
  | _, d :: ds, h => by
    cases h with
    | cons a b => exact .cons (Rp.mono e d a) (RpA.mono e ds b)
end
mutual
theorem Rp.dp {K : PySem.W.Frag} {F H : Hp} (e : Same F H) : ∀ {v : V} (d : PyData), Rp F v d → Dp K H v d
  | _, .none, h => by cases h; exact .non
  | _, .bool b, h => by cases h; exact .bl b
  | _, .int i, h => by cases h; exact .int i
  | _, .str x, h => by cases h; exact .str x
  | _, .list ds, h => by
    cases h with
    | lst a b => exact .lst (.inl (.inl (e _ _ a))) (RpA.dp e ds b)
  | _, .tuple ds, h => by
    cases h with
    | tup a b => exact .tup (.inl (.inl (e _ _ a))) (RpA.dp e ds b)
  | _, .dict _, h => by cases h
theorem RpA.dp {K : PySem.W.Frag} {F H : Hp} (e : Same F H) : ∀ {vs : List V} (ds : List PyData), RpA F vs ds → DpAll K H vs ds
  | _, [], h => by cases h; exact .nil
  | _, d :: ds, h => by
    cases h with
    | cons a b => exact .cons (Rp.dp e d a) (RpA.dp e ds b)
end
theorem RpA.len {F : Hp} : ∀ {vs : List V} {ds : List PyData}, RpA F vs ds → vs.length = ds.length
  | _, _, .nil => rfl
  | _, _, .cons _ t => congrArg (· + 1) (RpA.len t)
theorem RpA.get {F : Hp} : ∀ {vs : List V} {ds : List PyData}, RpA F vs ds → ∀ {i : Nat} {v : V}, vs[i]? = some v → ∃ d, ds[i]? = some d ∧ Rp F v d
  | _, _, .nil, i, v, e => by simp at e
  | _, _, .cons r _, 0, v, e => by simp at e; subst e; exact ⟨_, rfl, r⟩
  | _, _, .cons _ t, i + 1, v, e => by
    obtain ⟨d, h1, h2⟩ := RpA.get t (i := i) (v := v) (by simpa using e)
    exact ⟨d, by simpa using h1, h2⟩
theorem RpA.getD {F : Hp} : ∀ {vs : List V} {ds : List PyData}, RpA F vs ds → ∀ {i : Nat} {d : PyData}, ds[i]? = some d → ∃ v, vs[i]? = some v ∧ Rp F v d
  | _, _, .nil, i, d, e => by simp at e
  | _, _, .cons r _, 0, d, e => by simp at e; subst e; exact ⟨_, rfl, r⟩
  | _, _, .cons _ t, i + 1, d, e => by
    obtain ⟨v, h1, h2⟩ := RpA.getD t (i := i) (d := d) (by simpa using e)
    exact ⟨v, by simpa using h1, h2⟩
theorem RpA.append {F : Hp} : ∀ {vs ws : List V} {ds es : List PyData}, RpA F vs ds → RpA F ws es → RpA F (vs ++ ws) (ds ++ es)
  | _, _, _, _, .nil, h => h
  | _, _, _, _, .cons r t, h => .cons r (RpA.append t h)
theorem RpA.take {F : Hp} : ∀ {vs : List V} {ds : List PyData} (n : Nat), RpA F vs ds → RpA F (vs.take n) (ds.take n)
  | _, _, 0, _ => .nil
  | _, _, _ + 1, .nil => .nil
  | _, _, n + 1, .cons r t => .cons r (RpA.take n t)
theorem RpA.drop {F : Hp} : ∀ {vs : List V} {ds : List PyData} (n : Nat), RpA F vs ds → RpA F (vs.drop n) (ds.drop n)
  | _, _, 0, r => r
  | _, _, _ + 1, .nil => .nil
  | _, _, n + 1, .cons _ t => RpA.drop n t
theorem RpA.set {F : Hp} {v : V} {d : PyData} (r : Rp F v d) : ∀ {vs : List V} {ds : List PyData} (i : Nat), RpA F vs ds → RpA F (vs.set i v) (ds.set i d)
  | _, _, _, .nil => .nil
  | _, _, 0, .cons _ t => .cons r t
  | _, _, i + 1, .cons q t => .cons q (RpA.set r i t)
theorem RpA.eraseIdx {F : Hp} : ∀ {vs : List V} {ds : List PyData} (i : Nat), RpA F vs ds → RpA F (vs.eraseIdx i) (ds.eraseIdx i)
  | _, _, _, .nil => .nil
  | _, _, 0, .cons _ t => t
  | _, _, i + 1, .cons q t => .cons q (RpA.eraseIdx i t)
theorem RpA.dropLast {F : Hp} : ∀ {vs : List V} {ds : List PyData}, RpA F vs ds → RpA F vs.dropLast ds.dropLast
  | _, _, .nil => .nil
  | _, _, .cons _ .nil => .nil
  | _, _, .cons q (.cons r t) => .cons q (RpA.dropLast (.cons r t))
theorem RpA.reverse {F : Hp} {vs : List V} {ds : List PyData} (h : RpA F vs ds) : RpA F vs.reverse ds.reverse := by
  induction vs generalizing ds with
  | nil => cases h; exact .nil
  | cons v vs ih =>
    cases h with
    | cons r t =>
      rw [List.reverse_cons, List.reverse_cons]
      exact (ih t).append (.cons r .nil)
/-- lists of scalars -/
theorem RpA.ints {F : Hp} : ∀ {vs : List V} {ns : List Int}, RpA F vs (ns.map PyData.int) → vs = ns.map V.int
  | _, [], h => by cases h; rfl
  | _, n :: ns, h => by
    cases h with
    | cons r t => cases r; rw [RpA.ints t]; rfl
theorem RpA.bools {F : Hp} : ∀ {vs : List V} {bs : List Bool}, RpA F vs (bs.map PyData.bool) → vs = bs.map V.bl
  | _, [], h => by cases h; rfl
  | _, n :: ns, h => by
    cases h with
    | cons r t => cases r; rw [RpA.bools t]; rfl
theorem RpA.strs {F : Hp} : ∀ {vs : List V} {ss : List Str}, RpA F vs (ss.map PyData.str) → vs = ss.map V.str
  | _, [], h => by cases h; rfl
  | _, n :: ns, h => by
    cases h with
    | cons r t => cases r; rw [RpA.strs t]; rfl
theorem RpA.ofInts {F : Hp} : ∀ (ns : List Int), RpA F (ns.map V.int) (ns.map PyData.int)
  | [] => .nil
  | n :: ns => .cons (.int n) (RpA.ofInts ns)
theorem RpA.perm {F : Hp} {vs ws : List V} {ds : List PyData} (h : RpA F vs ds) (p : ws.Perm vs) : ∃ es : List PyData, es.Perm ds ∧ RpA F ws es := by
  induction p generalizing ds with
  | nil => cases h; exact ⟨[], .nil, .nil⟩
  | cons x p ih =>
    cases h with
    | cons r t =>
      obtain ⟨es, p1, r1⟩ := ih t
      exact ⟨_ :: es, .cons _ p1, .cons r r1⟩
  | swap x y l =>
    cases h with
    | cons r t =>
      cases t with
      | cons r2 t2 => exact ⟨_, .swap _ _ _, .cons r2 (.cons r t2)⟩
  | trans p1 p2 ih1 ih2 =>
    obtain ⟨es, q1, r1⟩ := ih2 h
    obtain ⟨fs, q2, r2⟩ := ih1 r1
    exact ⟨fs, q2.trans q1, r2⟩
/-! ### abstract states -/
/-- what stands at an address that this def alone holds -/
inductive OD where
  | lst (ds : List PyData)
  | dct (kvs : List (Key × V))
  | dtu (kvs : List (List Key × V))
  /-- a law's pot of draws: three ints, at most c draws mixed so far -/
  | pot (c : Nat)
/-- a slot: forgotten; data; an object of one's own; a known list of ints (the script) -/
inductive Sl where
  | e
  | d (x : PyData)
  | o (a : Addr) (u : OD)
  | s (ns : List Int)
  /-- a frozen dict -/
  | m (kvs : List (Key × V))
  | mt (kvs : List (List Key × V))
def PotOk (c : Nat) (xs : List V) : Prop := ∃ o m n : Int, xs = [.int o, .int m, .int n] ∧ 0 ≤ o ∧ o < 10 ^ 300 ∧ 0 ≤ m ∧ m < 2305843009213693921 ∧ 0 ≤ n ∧ n ≤ c
def Ow (F H : Hp) (a : Addr) : OD → Prop
  | .lst ds => ∃ xs, H a = some (.lst xs) ∧ RpA F xs ds
  | .dct kvs => H a = some (.dK kvs)
  | .dtu kvs => H a = some (.dT kvs)
  | .pot c => ∃ xs, H a = some (.lst xs) ∧ PotOk c xs
def Ss (K : PySem.W.Frag) (M : Addr → Prop) (F H : Hp) (o : Option V) : Sl → Prop
  | .e => True
  | .d x => ∃ v, o = some v ∧ Rp F v x
  | .o a u => o = some (.ref a) ∧ M a ∧ F a = none ∧ Ow F H a u
  | .s ns => ∃ a, o = some (.ref a) ∧ SqL K F a (ns.map V.int)
  | .m kvs => ∃ a, o = some (.ref a) ∧ F a = some (.dK kvs)
  | .mt kvs => ∃ a, o = some (.ref a) ∧ F a = some (.dT kvs)
structure Sd (K : PySem.W.Frag) (M : Addr → Prop) (F H : Hp) (σ : L2.St) (as : List Sl) : Prop where
  len : σ.length = as.length
  at_ : ∀ (i : Nat) (o : Option V) (s : Sl), σ[i]? = some o → as[i]? = some s → Ss K M F H o s
  dis : ∀ (i j : Nat) (a : Addr) (u w : OD), as[i]? = some (.o a u) → as[j]? = some (.o a w) → i = j
structure Wx (M : Addr → Prop) (F H F' H' : Hp) : Prop where
  ff : Same F F'
  fh : Same F' H'
  hh : ∀ a o, ¬ M a → H a = some o → H' a = some o
  own : ∀ a, ¬ M a → H a ≠ none → F a = none → F' a = none
def Fr (M : Addr → Prop) (H : Hp) : Prop := ∀ a, H a = none → M a
section
variable {K : PySem.W.Frag} {M : Addr → Prop} {F H F' H' F'' H'' : Hp} {σ : L2.St} {as : List Sl}
theorem Wx.refl (e : Same F H) : Wx M F H F H := ⟨Same.refl _, e, fun _ _ _ h => h, fun _ _ _ h => h⟩
theorem Wx.trans (a : Wx M F H F' H') (b : Wx M F' H' F'' H'') : Wx M F H F'' H'' :=
  ⟨a.ff.trans b.ff, b.fh, fun x o m h => b.hh x o m (a.hh x o m h), fun x m h1 h2 => b.own x m (fun z => by
    cases q : H x with
    | none => exact h1 q
    | some o => rw [a.hh x o m q] at z; cases z) (a.own x m h1 h2)⟩
theorem Wx.fr (a : Wx M F H F' H') (f : Fr M H) : Fr M H' := fun x h => by
  by_cases m : M x
  · exact m
  · refine f x ?_
    cases q : H x with
    | none => rfl
    | some o => rw [a.hh x o m q] at h; cases h
theorem same_none (e : Same F H) {a : Addr} (h : H a = none) : F a = none := e.free h
/-- all that stands is kept: pure steps -/
structure Wd (F H F' H' : Hp) : Prop where
  ff : Same F F'
  fh : Same F' H'
  hh : Same H H'
  own : ∀ a, H a ≠ none → F a = none → F' a = none
theorem Wd.refl (e : Same F H) : Wd F H F H := ⟨Same.refl _, e, Same.refl _, fun _ _ h => h⟩
theorem Wd.trans (a : Wd F H F' H') (b : Wd F' H' F'' H'') : Wd F H F'' H'' :=
  ⟨a.ff.trans b.ff, b.fh, a.hh.trans b.hh, fun x h1 h2 => b.own x (fun z => h1 (a.hh.free z)) (a.own x h1 h2)⟩
theorem Wd.wx (a : Wd F H F' H') : Wx M F H F' H' := ⟨a.ff, a.fh, fun x o _ h => a.hh x o h, fun x _ h1 h2 => a.own x h1 h2⟩
theorem Ow.wd {a : Addr} {u : OD} (w : Wd F H F' H') (h : Ow F H a u) : Ow F' H' a u := by
  cases u with
  | lst ds => obtain ⟨xs, h1, h2⟩ := h; exact ⟨xs, w.hh _ _ h1, RpA.mono w.ff ds h2⟩
  | dct kvs => exact w.hh _ _ h
  | dtu kvs => exact w.hh _ _ h
  | pot c => obtain ⟨xs, h1, h2⟩ := h; exact ⟨xs, w.hh _ _ h1, h2⟩
theorem Ow.ne0 {a : Addr} {u : OD} (h : Ow F H a u) : H a ≠ none := by
  intro e
  cases u with
  | lst ds => obtain ⟨xs, h1, h2⟩ := h; rw [e] at h1; cases h1
  | dct kvs => have h1 : H a = some (.dK kvs) := h; rw [e] at h1; cases h1
  | dtu kvs => have h1 : H a = some (.dT kvs) := h; rw [e] at h1; cases h1
  | pot c => obtain ⟨xs, h1, h2⟩ := h; rw [e] at h1; cases h1
theorem seqL_mono {a : Addr} {xs : List V} (e : Same F F') (h : SqL K F a xs) : SqL K F' a xs := e.seq h
theorem Ss.wd {o : Option V} {s : Sl} (w : Wd F H F' H') (h : Ss K M F H o s) : Ss K M F' H' o s := by
  cases s with
  | e => trivial
  | d x => obtain ⟨v, h1, h2⟩ := h; exact ⟨v, h1, Rp.mono w.ff x h2⟩
  | o a u => obtain ⟨h1, h2, h3, h4⟩ := h; exact ⟨h1, h2, w.own a h4.ne0 h3, h4.wd w⟩
  | s ns => obtain ⟨a, h1, h2⟩ := h; exact ⟨a, h1, w.ff.seq h2⟩
  | m kvs => obtain ⟨a, h1, h2⟩ := h; exact ⟨a, h1, w.ff _ _ h2⟩
  | mt kvs => obtain ⟨a, h1, h2⟩ := h; exact ⟨a, h1, w.ff _ _ h2⟩
theorem Sd.wd (w : Wd F H F' H') (S : Sd K M F H σ as) : Sd K M F' H' σ as := ⟨S.len, fun i o s h1 h2 => (S.at_ i o s h1 h2).wd w, S.dis⟩
theorem Sd.slot (S : Sd K M F H σ as) {i : Nat} {s : Sl} (h : as[i]? = some s) : ∃ o, σ[i]? = some o ∧ Ss K M F H o s := by
  have hi : i < σ.length := by rw [S.len]; exact (List.getElem?_eq_some_iff.mp h).1
  exact ⟨σ[i], List.getElem?_eq_getElem hi, S.at_ i _ s (List.getElem?_eq_getElem hi) h⟩
theorem Sd.get (S : Sd K M F H σ as) {i : Nat} {x : PyData} (h : as[i]? = some (.d x)) : ∃ v, σ[i]? = some (some v) ∧ Rp F v x := by
  obtain ⟨o, h1, v, rfl, h2⟩ := S.slot h
  exact ⟨v, h1, h2⟩
theorem Sd.gets (S : Sd K M F H σ as) {i : Nat} {ns : List Int} (h : as[i]? = some (.s ns)) : ∃ a, σ[i]? = some (some (.ref a)) ∧ SqL K F a (ns.map V.int) := by
  obtain ⟨o, h1, v, rfl, h2⟩ := S.slot h
  exact ⟨v, h1, h2⟩
theorem Sd.geto (S : Sd K M F H σ as) {i : Nat} {a : Addr} {u : OD} (h : as[i]? = some (.o a u)) : σ[i]? = some (some (.ref a)) ∧ M a ∧ F a = none ∧ Ow F H a u := by
  obtain ⟨o, h1, rfl, h2⟩ := S.slot h
  exact ⟨h1, h2⟩
theorem set_get {α : Type} {l : List α} {i j : Nat} {x y : α} (h : (l.set i x)[j]? = some y) : (i = j ∧ y = x) ∨ (i ≠ j ∧ l[j]? = some y) := by
  by_cases e : i = j
  · subst e
    by_cases hi : i < l.length
    · rw [List.getElem?_set_self hi] at h; cases h; exact .inl ⟨rfl, rfl⟩
    · rw [List.getElem?_eq_none (by simpa using hi)] at h; cases h
  · rw [List.getElem?_set_ne e] at h; exact .inr ⟨e, h⟩
/-- a slot is stored: no object of one's own -/
theorem Sd.set (S : Sd K M F H σ as) (i : Nat) {o : Option V} {s : Sl} (h : Ss K M F H o s) (n : ∀ a u, s ≠ .o a u) : Sd K M F H (σ.set i o) (as.set i s) := by
  refine ⟨by rw [List.length_set, List.length_set, S.len], fun j o' s' h1 h2 => ?_, fun j k a u w h1 h2 => ?_⟩
  · rcases set_get h1 with ⟨e1, rfl⟩ | ⟨e1, h1⟩
    · rcases set_get h2 with ⟨_, rfl⟩ | ⟨e2, _⟩
      · exact h
      · exact absurd e1 e2
    · rcases set_get h2 with ⟨e2, _⟩ | ⟨_, h2⟩
      · exact absurd e2 e1
      · exact S.at_ j o' s' h1 h2
  · rcases set_get h1 with ⟨e1, h1⟩ | ⟨e1, h1⟩
    · exact absurd h1.symm (n a u)
    · rcases set_get h2 with ⟨e2, h2⟩ | ⟨e2, h2⟩
      · exact absurd h2.symm (n a w)
      · exact S.dis j k a u w h1 h2
/-- a slot takes an object of one's own that no other slot has -/
theorem Sd.seto (S : Sd K M F H σ as) (i : Nat) {a : Addr} {u : OD} (hM : M a) (hF : F a = none) (ho : Ow F H a u) (n : ∀ j w, as[j]? = some (.o a w) → j = i) : Sd K M F H (σ.set i (some (.ref a))) (as.set i (.o a u)) := by
  refine ⟨by rw [List.length_set, List.length_set, S.len], fun j o' s' h1 h2 => ?_, fun j k b v w h1 h2 => ?_⟩
  · rcases set_get h1 with ⟨e1, rfl⟩ | ⟨e1, h1⟩
    · rcases set_get h2 with ⟨_, rfl⟩ | ⟨e2, _⟩
      · exact ⟨rfl, hM, hF, ho⟩
      · exact absurd e1 e2
    · rcases set_get h2 with ⟨e2, _⟩ | ⟨_, h2⟩
      · exact absurd e2 e1
      · exact S.at_ j o' s' h1 h2
  · rcases set_get h1 with ⟨e1, h1⟩ | ⟨e1, h1⟩
    · cases h1
      rcases set_get h2 with ⟨e2, _⟩ | ⟨e2, h2⟩
      · exact e1.symm.trans e2
      · exact absurd (n _ _ h2).symm e2
    · rcases set_get h2 with ⟨e2, h2⟩ | ⟨e2, h2⟩
      · cases h2
        exact absurd (n _ _ h1).symm e1
      · exact S.dis j k b v w h1 h2
/-- the object at a slot changes -/
theorem Ow.upd_ne' {a b : Addr} {u : OD} {o : HO} (h : Ow F H b u) (ne : b ≠ a) : Ow F (upd H a o) b u := by
  cases u with
  | lst ds => obtain ⟨xs, h1, h2⟩ := h; exact ⟨xs, by rw [upd_ne ne]; exact h1, h2⟩
  | dct kvs => have h1 : H b = some (.dK kvs) := h; show upd H a o b = _; rw [upd_ne ne]; exact h1
  | dtu kvs => have h1 : H b = some (.dT kvs) := h; show upd H a o b = _; rw [upd_ne ne]; exact h1
  | pot c => obtain ⟨xs, h1, h2⟩ := h; exact ⟨xs, by rw [upd_ne ne]; exact h1, h2⟩
theorem Sd.mut (S : Sd K M F H σ as) {i : Nat} {a : Addr} {u w : OD} (h : as[i]? = some (.o a u)) {o : HO} (hw : Ow F (upd H a o) a w) : Sd K M F (upd H a o) σ (as.set i (.o a w)) := by
  obtain ⟨hσ, hM, hF, _⟩ := S.geto h
  refine ⟨by rw [List.length_set, S.len], fun j o' s' h1 h2 => ?_, fun j k b v w' h1 h2 => ?_⟩
  · rcases set_get h2 with ⟨e2, rfl⟩ | ⟨e2, h5⟩
    · subst e2
      rw [hσ] at h1; cases h1
      exact ⟨rfl, hM, hF, hw⟩
    · have q := S.at_ j o' s' h1 h5
      cases s' with
      | e => trivial
      | d x => exact q
      | s ns => exact q
      | m kvs => exact q
      | mt kvs => exact q
      | o b v =>
        obtain ⟨q1, q2, q3, q4⟩ := q
        refine ⟨q1, q2, q3, q4.upd_ne' fun e => ?_⟩
        subst e
        exact e2 (S.dis i j _ _ _ h h5)
  · have e1 : ∃ v', as[j]? = some (.o b v') := by
      rcases set_get h1 with ⟨e, h1⟩ | ⟨_, h1⟩
      · cases h1; subst e; exact ⟨u, h⟩
      · exact ⟨v, h1⟩
    have e2 : ∃ v', as[k]? = some (.o b v') := by
      rcases set_get h2 with ⟨e, h2⟩ | ⟨_, h2⟩
      · cases h2; subst e; exact ⟨u, h⟩
      · exact ⟨w', h2⟩
    obtain ⟨v1, e1⟩ := e1
    obtain ⟨v2, e2⟩ := e2
    exact S.dis j k b v1 v2 e1 e2
theorem Wx.mut (e : Same F H) {a : Addr} (hM : M a) (hF : F a = none) (o : HO) : Wx M F H F (upd H a o) :=
  ⟨Same.refl _, fun b u h => by rw [upd_ne (ne_of_none h hF)]; exact e b u h, fun b u m h => by rw [upd_ne (fun z => m (by rw [z]; exact hM))]; exact h, fun _ _ _ h => h⟩
/-- a new object is laid, known from then on -/
theorem Wd.new (e : Same F H) {p : Addr} (h : H p = none) (o : HO) : Wd F H (upd F p o) (upd H p o) := by
  have hF := same_none e h
  refine ⟨fun b u q => by rw [upd_ne (ne_of_none q hF)]; exact q, fun b u q => ?_, fun b u q => by rw [upd_ne (ne_of_none q h)]; exact q, fun b hb q => ?_⟩
  · by_cases z : b = p
    · subst z; rw [upd_same] at q ⊢; exact q
    · rw [upd_ne z] at q ⊢; exact e b u q
  · rw [upd_ne (fun z => hb (by rw [z]; exact h))]; exact q
/-- .. not known: it may change -/
theorem Wd.newo (e : Same F H) {p : Addr} (h : H p = none) (o : HO) : Wd F H F (upd H p o) :=
  ⟨Same.refl _, fun b u q => by rw [upd_ne (ne_of_none q (same_none e h))]; exact e b u q, fun b u q => by rw [upd_ne (ne_of_none q h)]; exact q, fun _ _ q => q⟩
/-- an object of one's own is known from now on -/
theorem Wx.freeze (e : Same F H) {a : Addr} {o : HO} (hM : M a) (hF : F a = none) (h : H a = some o) : Wx M F H (upd F a o) H := by
  refine ⟨fun b u q => by rw [upd_ne (ne_of_none q hF)]; exact q, fun b u q => ?_, fun _ _ _ q => q, fun b m hb q => ?_⟩
  · by_cases z : b = a
    · subst z; rw [upd_same] at q; cases q; exact h
    · rw [upd_ne z] at q; exact e b u q
  · rw [upd_ne (fun z => m (by rw [z]; exact hM))]; exact q
/-! ### what evaluates to what -/
abbrev Φd := PyData → List Sl → Prop
def Ev (K : PySem.W.Frag) (te : TE) (as : List Sl) (Φ : Φd) : Prop := ∀ (M : Addr → Prop) (F H : Hp) (σ : L2.St) (Q : VK), Same F H → Fr M H → Sd K M F H σ as →
  (∀ d as' v F' H', Φ d as' → Wx M F H F' H' → Sd K M F' H' σ as' → Rp F' v d → Q v H') → te σ H Q
def EvB (K : PySem.W.Frag) (tt : TT) (as : List Sl) (Φ : Bool → List Sl → Prop) : Prop := ∀ (M : Addr → Prop) (F H : Hp) (σ : L2.St) (Q : Bool → Hp → Prop), Same F H → Fr M H → Sd K M F H σ as →
  (∀ b as' F' H', Φ b as' → Wx M F H F' H' → Sd K M F' H' σ as' → Q b H') → tt σ H Q
def EvA (K : PySem.W.Frag) (ta : TA) (as : List Sl) (Φ : List PyData → List Sl → Prop) : Prop := ∀ (M : Addr → Prop) (F H : Hp) (σ : L2.St) (Q : List V → Hp → Prop), Same F H → Fr M H → Sd K M F H σ as →
  (∀ ds as' vs F' H', Φ ds as' → Wx M F H F' H' → Sd K M F' H' σ as' → RpA F' vs ds → Q vs H') → ta σ H Q
/-- a new object of one's own -/
def EvN (K : PySem.W.Frag) (te : TE) (as : List Sl) (Φ : OD → List Sl → Prop) : Prop := ∀ (M : Addr → Prop) (F H : Hp) (σ : L2.St) (Q : VK), Same F H → Fr M H → Sd K M F H σ as →
  (∀ u as' a F' H', Φ u as' → Wx M F H F' H' → Sd K M F' H' σ as' → M a → F' a = none → Ow F' H' a u → (∀ (j : Nat) w, as'[j]? ≠ some (.o a w)) → Q (.ref a) H') → te σ H Q
/-- a part of a slice -/
def EvO (K : PySem.W.Frag) (to : TO) (as : List Sl) (Φ : Option Int → List Sl → Prop) : Prop := ∀ (M : Addr → Prop) (F H : Hp) (σ : L2.St) (Q : Option Int → Hp → Prop), Same F H → Fr M H → Sd K M F H σ as →
  (∀ b as' F' H', Φ b as' → Wx M F H F' H' → Sd K M F' H' σ as' → Q b H') → to σ H Q
structure AE where
  nx : List Sl → Prop
  rt : PyData → List Sl → Prop
  bk : List Sl → Prop := fun _ => False
  ct : List Sl → Prop := fun _ => False
  /-- a new object of one's own, a frozen dict is returned -/
  rn : OD → List Sl → Prop := fun _ _ => False
  rm : List (Key × V) → List Sl → Prop := fun _ _ => False
structure Sim (K : PySem.W.Frag) (M : Addr → Prop) (F H : Hp) (D : Ends) (A : AE) : Prop where
  nx : ∀ as' σ' F' H', A.nx as' → Wx M F H F' H' → Sd K M F' H' σ' as' → D.nx σ' H'
  rt : ∀ d as' v σ' F' H', A.rt d as' → Wx M F H F' H' → Sd K M F' H' σ' as' → Rp F' v d → D.rt v H'
  bk : ∀ as' σ' F' H', A.bk as' → Wx M F H F' H' → Sd K M F' H' σ' as' → D.bk σ' H'
  ct : ∀ as' σ' F' H', A.ct as' → Wx M F H F' H' → Sd K M F' H' σ' as' → D.ct σ' H'
  rn : ∀ u as' a F' H', A.rn u as' → Wx M F H F' H' → M a → F' a = none → Ow F' H' a u → D.rt (.ref a) H'
  rm : ∀ kvs as' a F' H', A.rm kvs as' → Wx M F H F' H' → F' a = some (.dK kvs) → D.rt (.ref a) H'
def Ex (K : PySem.W.Frag) (t : TS) (A : AE) (as : List Sl) : Prop := ∀ (M : Addr → Prop) (F H : Hp) (σ : L2.St) (D : Ends), Same F H → Fr M H → Sd K M F H σ as → Sim K M F H D A → t D σ H
theorem Sim.mono {D : Ends} {A : AE} (S : Sim K M F H D A) (w : Wx M F H F' H') : Sim K M F' H' D A :=
  ⟨fun as' σ' F1 H1 a b c => S.nx as' σ' F1 H1 a (w.trans b) c, fun d as' v σ' F1 H1 a b c e => S.rt d as' v σ' F1 H1 a (w.trans b) c e,
    fun as' σ' F1 H1 a b c => S.bk as' σ' F1 H1 a (w.trans b) c, fun as' σ' F1 H1 a b c => S.ct as' σ' F1 H1 a (w.trans b) c,
    fun u as' x F1 H1 a b => S.rn u as' x F1 H1 a (w.trans b), fun u as' x F1 H1 a b => S.rm u as' x F1 H1 a (w.trans b)⟩
end
end Lp

set_option Elab.async false
set_option linter.all false
set_option maxRecDepth 100000
set_option maxHeartbeats 2000000
/-! Lp: the rules for expressions. -/
namespace Lp
open PySem PySem.Spec L2
section
variable {K : PySem.W.Frag} {M : Addr → Prop} {F H F' H' F'' H'' : Hp} {as : List Sl} {Φ : Φd} {ta tb tc te : TE} {tt tu : TT}
/-! ### names, constants -/
theorem ev_var {i : Nat} {x : PyData} (h : as[i]? = some (.d x)) (k : Φ x as) : Ev K (tVar i) as Φ := fun M F H σ Q e f S q => by
  obtain ⟨v, h1, h2⟩ := S.get h
  exact ⟨v, h1, q _ _ v F H k (Wx.refl e) S h2⟩
theorem ev_int {i : Int} (k : Φ (.int i) as) : Ev K (tC (.int i)) as Φ := fun M F H σ Q e f S q => q _ _ _ F H k (Wx.refl e) S (.int i)
theorem ev_bl {i : Bool} (k : Φ (.bool i) as) : Ev K (tC (.bl i)) as Φ := fun M F H σ Q e f S q => q _ _ _ F H k (Wx.refl e) S (.bl i)
theorem ev_str {i : Str} (k : Φ (.str i) as) : Ev K (tC (.str i)) as Φ := fun M F H σ Q e f S q => q _ _ _ F H k (Wx.refl e) S (.str i)
theorem ev_non (k : Φ .none as) : Ev K (tC .non) as Φ := fun M F H σ Q e f S q => q _ _ _ F H k (Wx.refl e) S .non
/-! ### operators -/
/-- an operator on data -/
def RD (K : PySem.W.Frag) (r : R2) (x y : PyData) (Ψ : PyData → Prop) : Prop := ∀ (F H : Hp) (v u : V) (Q : VK), Same F H → Rp F v x → Rp F u y →
  (∀ d w F' H', Ψ d → Wd F H F' H' → Rp F' w d → Q w H') → r v u H Q
theorem ev_op {r : R2} (h : Ev K ta as fun x as1 => Ev K tb as1 fun y as2 => RD K r x y fun d => Φ d as2) : Ev K (tOp r ta tb) as Φ := fun M F H σ Q e f S q => by
  refine h M F H σ _ e f S fun x as1 v F1 H1 h1 w1 S1 r1 => ?_
  refine h1 M F1 H1 σ _ w1.fh (w1.fr f) S1 fun y as2 u F2 H2 h2 w2 S2 r2 => ?_
  refine h2 F2 H2 v u Q w2.fh (Rp.mono w2.ff x r1) r2 fun d w F3 H3 h3 w3 r3 => ?_
  exact q d as2 w F3 H3 h3 ((w1.trans w2).trans w3.wx) (S2.wd w3) r3
theorem rd_I0 {g : Int → Int → V} {g' : Int → Int → PyData} (hg : ∀ i j F, Rp F (g i j) (g' i j)) {x y : PyData} {Ψ : PyData → Prop} (h : ∃ i j, x = .int i ∧ y = .int j ∧ Ψ (g' i j)) : RD K (rI0 g) x y Ψ := fun F H v u Q e r1 r2 q => by
  obtain ⟨i, j, rfl, rfl, h⟩ := h
  cases r1; cases r2
  exact ⟨i, j, rfl, rfl, q _ _ F H h (Wd.refl e) (hg i j F)⟩
theorem rd_I {C : Int → Int → Prop} {g : Int → Int → Int} {x y : PyData} {Ψ : PyData → Prop} (h : ∃ i j, x = .int i ∧ y = .int j ∧ C i j ∧ Ψ (.int (g i j))) : RD K (rI C fun i j => .int (g i j)) x y Ψ := fun F H v u Q e r1 r2 q => by
  obtain ⟨i, j, rfl, rfl, c, h⟩ := h
  cases r1; cases r2
  exact ⟨i, j, rfl, rfl, c, q _ _ F H h (Wd.refl e) (.int _)⟩
theorem ev_I {g : Int → Int → Int} (h : Ev K ta as fun x as1 => Ev K tb as1 fun y as2 => ∃ i j, x = .int i ∧ y = .int j ∧ Φ (.int (g i j)) as2) : Ev K (tOp (rI0 fun i j => .int (g i j)) ta tb) as Φ :=
  ev_op fun M F H σ Q e f S q => h M F H σ Q e f S fun x as1 v F1 H1 h1 => q x as1 v F1 H1 fun M F H σ Q e f S q => h1 M F H σ Q e f S fun y as2 v F1 H1 h2 => q y as2 v F1 H1 (rd_I0 (g' := fun i j => .int (g i j)) (fun _ _ _ => .int _) h2)
theorem Ev.mono {Ψ : Φd} (h : Ev K te as Ψ) (k : ∀ d as', Ψ d as' → Φ d as') : Ev K te as Φ := fun M F H σ Q e f S q => h M F H σ Q e f S fun d as' v F' H' a => q d as' v F' H' (k d as' a)
theorem EvB.mono {Ψ Φ : Bool → List Sl → Prop} (h : EvB K tt as Ψ) (k : ∀ d as', Ψ d as' → Φ d as') : EvB K tt as Φ := fun M F H σ Q e f S q => h M F H σ Q e f S fun d as' F' H' a => q d as' F' H' (k d as' a)
theorem EvA.mono {ta : TA} {Ψ Φ : List PyData → List Sl → Prop} (h : EvA K ta as Ψ) (k : ∀ d as', Ψ d as' → Φ d as') : EvA K ta as Φ := fun M F H σ Q e f S q => h M F H σ Q e f S fun d as' v F' H' a => q d as' v F' H' (k d as' a)
theorem EvN.mono {Ψ Φ : OD → List Sl → Prop} (h : EvN K te as Ψ) (k : ∀ d as', Ψ d as' → Φ d as') : EvN K te as Φ := fun M F H σ Q e f S q => h M F H σ Q e f S fun d as' v F' H' a => q d as' v F' H' (k d as' a)
/-- two operands, then data's own operation -/
theorem ev_opD {r : R2} {Ψ : PyData → PyData → List Sl → Prop} (hr : ∀ x y as2, Ψ x y as2 → RD K r x y fun d => Φ d as2) (h : Ev K ta as fun x as1 => Ev K tb as1 fun y as2 => Ψ x y as2) : Ev K (tOp r ta tb) as Φ :=
  ev_op (h.mono fun x as1 h1 => h1.mono fun y as2 h2 => hr x y as2 h2)
theorem ev_BI {g : Int → Int → Bool} (h : Ev K ta as fun x as1 => Ev K tb as1 fun y as2 => ∃ i j, x = .int i ∧ y = .int j ∧ Φ (.bool (g i j)) as2) : Ev K (tOp (rI0 fun i j => .bl (g i j)) ta tb) as Φ :=
  ev_opD (fun x y as2 h2 => rd_I0 (g' := fun i j => .bool (g i j)) (fun _ _ _ => .bl _) h2) h
theorem ev_IC {C : Int → Int → Prop} {g : Int → Int → Int} (h : Ev K ta as fun x as1 => Ev K tb as1 fun y as2 => ∃ i j, x = .int i ∧ y = .int j ∧ C i j ∧ Φ (.int (g i j)) as2) : Ev K (tOp (rI C fun i j => .int (g i j)) ta tb) as Φ :=
  ev_opD (fun x y as2 h2 => rd_I h2) h
/-- scalars -/
def scD : PyData → Option V
  | .none => some .non
  | .bool b => some (.bl b)
  | .int i => some (.int i)
  | .str x => some (.str x)
  | _ => none
theorem scD_rp {d : PyData} {v u : V} (h : scD d = some v) (r : Rp F u d) : u = v := by
  cases r <;> simp [scD] at h <;> first | exact h | exact h.symm
theorem ev_eqS (h : Ev K ta as fun x as1 => Ev K tb as1 fun y as2 => ∃ v u, scD x = some v ∧ scD y = some u ∧ scal v u = true ∧ Φ (.bool (decide (v = u))) as2) : Ev K (tOp rEq ta tb) as Φ :=
  ev_opD (fun x y as2 ⟨v, u, h1, h2, h3, h4⟩ F H v' u' Q e r1 r2 q => by
    have e1 := scD_rp h1 r1; have e2 := scD_rp h2 r2; subst e1 e2
    exact ⟨h3, q _ _ F H h4 (Wd.refl e) (.bl _)⟩) h
theorem ev_neS (h : Ev K ta as fun x as1 => Ev K tb as1 fun y as2 => ∃ v u, scD x = some v ∧ scD y = some u ∧ scal v u = true ∧ Φ (.bool (!decide (v = u))) as2) : Ev K (tOp rNe ta tb) as Φ :=
  ev_opD (fun x y as2 ⟨v, u, h1, h2, h3, h4⟩ F H v' u' Q e r1 r2 q => by
    have e1 := scD_rp h1 r1; have e2 := scD_rp h2 r2; subst e1 e2
    exact ⟨h3, q _ _ F H h4 (Wd.refl e) (.bl _)⟩) h
theorem ev_eqI (h : Ev K ta as fun x as1 => Ev K tb as1 fun y as2 => ∃ i j, x = .int i ∧ y = .int j ∧ Φ (.bool (decide (i = j))) as2) : Ev K (tOp rEq ta tb) as Φ :=
  ev_eqS (h.mono fun x as1 h1 => h1.mono fun y as2 ⟨i, j, e1, e2, h2⟩ => ⟨.int i, .int j, by rw [e1]; rfl, by rw [e2]; rfl, rfl, by simpa using h2⟩)
theorem ev_neI (h : Ev K ta as fun x as1 => Ev K tb as1 fun y as2 => ∃ i j, x = .int i ∧ y = .int j ∧ Φ (.bool (!decide (i = j))) as2) : Ev K (tOp rNe ta tb) as Φ :=
  ev_neS (h.mono fun x as1 h1 => h1.mono fun y as2 ⟨i, j, e1, e2, h2⟩ => ⟨.int i, .int j, by rw [e1]; rfl, by rw [e2]; rfl, rfl, by simpa using h2⟩)
theorem ev_neB (h : Ev K ta as fun x as1 => Ev K tb as1 fun y as2 => ∃ i j, x = .bool i ∧ y = .bool j ∧ Φ (.bool (!decide (i = j))) as2) : Ev K (tOp rNe ta tb) as Φ :=
  ev_neS (h.mono fun x as1 h1 => h1.mono fun y as2 ⟨i, j, e1, e2, h2⟩ => ⟨.bl i, .bl j, by rw [e1]; rfl, by rw [e2]; rfl, rfl, by simpa using h2⟩)
theorem ev_eqB (h : Ev K ta as fun x as1 => Ev K tb as1 fun y as2 => ∃ i j, x = .bool i ∧ y = .bool j ∧ Φ (.bool (decide (i = j))) as2) : Ev K (tOp rEq ta tb) as Φ :=
  ev_eqS (h.mono fun x as1 h1 => h1.mono fun y as2 ⟨i, j, e1, e2, h2⟩ => ⟨.bl i, .bl j, by rw [e1]; rfl, by rw [e2]; rfl, rfl, by simpa using h2⟩)
/-- whole data -/
theorem ev_eqD (h : Ev K ta as fun x as1 => Ev K tb as1 fun y as2 => SeqAt.shaped x = true ∧ SeqAt.shaped y = true ∧ Φ (.bool (PyData.eqv x y)) as2) : Ev K (tOp (rEqD K) ta tb) as Φ :=
  ev_opD (fun x y as2 ⟨h1, h2, h3⟩ F H v u Q e r1 r2 q => ⟨x, y, Rp.dp e x r1, Rp.dp e y r2, h1, h2, q _ _ F H h3 (Wd.refl e) (.bl _)⟩) h
theorem ev_neD (h : Ev K ta as fun x as1 => Ev K tb as1 fun y as2 => SeqAt.shaped x = true ∧ SeqAt.shaped y = true ∧ Φ (.bool (!PyData.eqv x y)) as2) : Ev K (tOp (rNeD K) ta tb) as Φ :=
  ev_opD (fun x y as2 ⟨h1, h2, h3⟩ F H v u Q e r1 r2 q => ⟨x, y, Rp.dp e x r1, Rp.dp e y r2, h1, h2, q _ _ F H h3 (Wd.refl e) (.bl _)⟩) h
/-- is None -/
def isNonD : PyData → Bool
  | .none => true
  | _ => false
theorem isNon_rp {d : PyData} {v : V} (r : Rp F v d) : decide (v = .non) = isNonD d := by cases r <;> rfl
theorem ev_isN (h : Ev K ta as fun x as1 => Φ (.bool (isNonD x)) as1) : Ev K (tOp (fun x y H Q => y = .non ∧ Q (.bl (decide (x = .non))) H) ta (tC .non)) as Φ :=
  ev_opD (Ψ := fun x y as2 => y = .none ∧ Φ (.bool (isNonD x)) as2) (fun x y as2 ⟨e1, h2⟩ F H v u Q e r1 r2 q => by
    subst e1; cases r2
    refine ⟨rfl, ?_⟩
    rw [isNon_rp r1]
    exact q _ _ F H h2 (Wd.refl e) (.bl _)) (h.mono fun x as1 h1 => ev_non ⟨rfl, h1⟩)
theorem ev_notN (h : Ev K ta as fun x as1 => Φ (.bool (!isNonD x)) as1) : Ev K (tOp (fun x y H Q => y = .non ∧ Q (.bl (!decide (x = .non))) H) ta (tC .non)) as Φ :=
  ev_opD (Ψ := fun x y as2 => y = .none ∧ Φ (.bool (!isNonD x)) as2) (fun x y as2 ⟨e1, h2⟩ F H v u Q e r1 r2 q => by
    subst e1; cases r2
    refine ⟨rfl, ?_⟩
    rw [isNon_rp r1]
    exact q _ _ F H h2 (Wd.refl e) (.bl _)) (h.mono fun x as1 h1 => ev_non ⟨rfl, h1⟩)
theorem ev_isB (h : Ev K ta as fun x as1 => Ev K tb as1 fun y as2 => ∃ i j, x = .bool i ∧ y = .bool j ∧ Φ (.bool (decide (i = j))) as2) : Ev K (tOp rIsB ta tb) as Φ :=
  ev_opD (fun x y as2 ⟨i, j, e1, e2, h2⟩ F H v u Q e r1 r2 q => by
    subst e1 e2; cases r1; cases r2
    exact ⟨i, j, rfl, rfl, q _ _ F H h2 (Wd.refl e) (.bl _)⟩) h
theorem ev_notB (h : Ev K ta as fun x as1 => Ev K tb as1 fun y as2 => ∃ i j, x = .bool i ∧ y = .bool j ∧ Φ (.bool (!decide (i = j))) as2) : Ev K (tOp rNotB ta tb) as Φ :=
  ev_opD (fun x y as2 ⟨i, j, e1, e2, h2⟩ F H v u Q e r1 r2 q => by
    subst e1 e2; cases r1; cases r2
    exact ⟨i, j, rfl, rfl, q _ _ F H h2 (Wd.refl e) (.bl _)⟩) h
/-- subscripts -/
theorem at_rp {vs : List V} {ds : List PyData} {i : Int} {d : PyData} (r : RpA F vs ds) (h : atI ds i = some d) : ∃ v, atI vs i = some v ∧ Rp F v d := by
  unfold atI at h ⊢
  rw [r.len]
  cases e : ixN ds.length i with
  | none => rw [e] at h; cases h
  | some j =>
    rw [e] at h
    obtain ⟨v, h1, h2⟩ := r.getD (i := j) (d := d) h
    exact ⟨v, h1, h2⟩
theorem ev_ixL (h : Ev K ta as fun x as1 => Ev K tb as1 fun y as2 => ∃ ds i d, x = .list ds ∧ y = .int i ∧ atI ds i = some d ∧ Φ d as2) : Ev K (tOp (rIxL K) ta tb) as Φ :=
  ev_opD (fun x y as2 ⟨ds, i, d, e1, e2, h1, h2⟩ F H v u Q e r1 r2 q => by
    subst e1 e2; cases r2
    cases r1 with
    | lst a b =>
      obtain ⟨w, k1, k2⟩ := at_rp b h1
      exact ⟨_, _, i, w, rfl, rfl, .inl (.inl (e _ _ a)), k1, q _ _ F H h2 (Wd.refl e) k2⟩) h
theorem ev_ixT (h : Ev K ta as fun x as1 => Ev K tb as1 fun y as2 => ∃ ds i d, x = .tuple ds ∧ y = .int i ∧ atI ds i = some d ∧ Φ d as2) : Ev K (tOp (rIxT K) ta tb) as Φ :=
  ev_opD (fun x y as2 ⟨ds, i, d, e1, e2, h1, h2⟩ F H v u Q e r1 r2 q => by
    subst e1 e2; cases r2
    cases r1 with
    | tup a b =>
      obtain ⟨w, k1, k2⟩ := at_rp b h1
      exact ⟨_, _, i, w, rfl, rfl, .inl (.inl (e _ _ a)), k1, q _ _ F H h2 (Wd.refl e) k2⟩) h
/-- in, not in: flat data in a list or tuple -/
def seqD : PyData → Option (List PyData)
  | .list ds => some ds
  | .tuple ds => some ds
  | _ => none
theorem seqD_rp {x : PyData} {ds : List PyData} {v : V} (e : Same F H) (h : seqD x = some ds) (r : Rp F v x) : ∃ a xs, v = .ref a ∧ (SqL K H a xs ∨ SqT K H a xs) ∧ RpA F xs ds := by
  cases r with
  | lst a b => cases h; exact ⟨_, _, rfl, .inl (.inl (.inl (e _ _ a))), b⟩
  | tup a b => cases h; exact ⟨_, _, rfl, .inr (.inl (.inl (e _ _ a))), b⟩
  | _ => cases h
theorem mapM_sc {vs : List V} {ds : List PyData} (r : RpA F vs ds) : ∀ {ws : List V}, ds.mapM scD = some ws → vs = ws := by
  induction vs generalizing ds with
  | nil => intro ws h; cases r; simp at h; exact h.symm
  | cons v vs ih =>
    intro ws h
    cases r with
    | cons r t =>
      simp only [List.mapM_cons, Option.pure_def, Option.bind_eq_bind, Option.bind_eq_some_iff] at h
      obtain ⟨a, h1, b, h2, h3⟩ := h
      cases h3
      rw [scD_rp h1 r, ih t h2]
theorem ev_inI {neg : Bool} (h : Ev K ta as fun x as1 => Ev K tb as1 fun y as2 => ∃ (i : Int) (ns : List Int), x = .int i ∧ seqD y = some (ns.map PyData.int) ∧ Φ (.bool (if neg then !decide (i ∈ ns) else decide (i ∈ ns))) as2) : Ev K (tOp (rIn K neg) ta tb) as Φ :=
  ev_opD (fun x y as2 ⟨i, ns, e1, h1, h2⟩ F H v u Q e r1 r2 q => by
    subst e1; cases r1
    obtain ⟨a, xs, rfl, hs, rs⟩ := seqD_rp (K := K) e h1 r2
    have ex := RpA.ints rs
    subst ex
    refine ⟨a, _, rfl, hs, rfl, ?_, ?_⟩
    · rw [List.all_map, List.all_eq_true]; intro x _; rfl
    · have ee : inV (.int i) (ns.map V.int) = decide (i ∈ ns) := by
        unfold inV
        rw [List.any_map]
        by_cases hm : i ∈ ns
        · rw [decide_eq_true hm, List.any_eq_true]
          exact ⟨i, hm, by show (i == i) = true; simp⟩
        · rw [decide_eq_false hm, List.any_eq_false]
          intro j hj hq
          have : (j == i) = true := hq
          have : j = i := by simpa using this
          exact hm (this ▸ hj)
      rw [ee]
      exact q _ _ F H h2 (Wd.refl e) (.bl _)) h
/-- tuples of ints by their order -/
theorem ev_ltT (h : Ev K ta as fun x as1 => Ev K tb as1 fun y as2 => ∃ ns ms : List Int, x = .tuple (ns.map PyData.int) ∧ y = .tuple (ms.map PyData.int) ∧ Φ (.bool (HT.lexLt ns ms)) as2) : Ev K (tOp (rLtT K) ta tb) as Φ :=
  ev_opD (fun x y as2 ⟨ns, ms, e1, e2, h2⟩ F H v u Q e r1 r2 q => by
    subst e1 e2
    cases r1 with
    | tup a b =>
      cases r2 with
      | tup a' b' =>
        have e1 := RpA.ints b; have e2 := RpA.ints b'
        subst e1 e2
        exact ⟨_, _, ns, ms, rfl, rfl, .inl (.inl (e _ _ a)), .inl (.inl (e _ _ a')), q _ _ F H h2 (Wd.refl e) (.bl _)⟩) h
/-! ### and, or, not, if -/
theorem ev_and (h : Ev K ta as fun x as1 => ∃ b, x = .bool b ∧ (b = true → Ev K tb as1 Φ) ∧ (b = false → Φ (.bool false) as1)) : Ev K (tAndV ta tb) as Φ := fun M F H σ Q e f S q =>
  h M F H σ _ e f S fun x as1 v F1 H1 ⟨b, e1, h1, h2⟩ w1 S1 r1 => by
    subst e1; cases r1
    refine ⟨b, rfl, ?_⟩
    cases b with
    | true =>
      show tb σ H1 Q
      exact h1 rfl M F1 H1 σ Q w1.fh (w1.fr f) S1 fun d as' v F2 H2 a w2 => q d as' v F2 H2 a (w1.trans w2)
    | false => exact q _ _ _ F1 H1 (h2 rfl) w1 S1 (.bl _)
theorem ev_or (h : Ev K ta as fun x as1 => ∃ b, x = .bool b ∧ (b = false → Ev K tb as1 Φ) ∧ (b = true → Φ (.bool true) as1)) : Ev K (tOrV ta tb) as Φ := fun M F H σ Q e f S q =>
  h M F H σ _ e f S fun x as1 v F1 H1 ⟨b, e1, h1, h2⟩ w1 S1 r1 => by
    subst e1; cases r1
    refine ⟨b, rfl, ?_⟩
    cases b with
    | false =>
      show tb σ H1 Q
      exact h1 rfl M F1 H1 σ Q w1.fh (w1.fr f) S1 fun d as' v F2 H2 a w2 => q d as' v F2 H2 a (w1.trans w2)
    | true => exact q _ _ _ F1 H1 (h2 rfl) w1 S1 (.bl _)
theorem ev_not (h : Ev K ta as fun x as1 => ∃ b, x = .bool b ∧ Φ (.bool (!b)) as1) : Ev K (tNotV ta) as Φ := fun M F H σ Q e f S q =>
  h M F H σ _ e f S fun x as1 v F1 H1 ⟨b, e1, h1⟩ w1 S1 r1 => by
    subst e1; cases r1
    exact ⟨b, rfl, q _ _ _ F1 H1 h1 w1 S1 (.bl _)⟩
theorem ev_if (h : EvB K tt as fun b as1 => (b = true → Ev K ta as1 Φ) ∧ (b = false → Ev K tb as1 Φ)) : Ev K (tIf tt ta tb) as Φ := fun M F H σ Q e f S q =>
  h M F H σ _ e f S fun b as1 F1 H1 ⟨h1, h2⟩ w1 S1 => by
    cases b with
    | true => exact h1 rfl M F1 H1 σ Q w1.fh (w1.fr f) S1 fun d as' v F2 H2 a w2 => q d as' v F2 H2 a (w1.trans w2)
    | false => exact h2 rfl M F1 H1 σ Q w1.fh (w1.fr f) S1 fun d as' v F2 H2 a w2 => q d as' v F2 H2 a (w1.trans w2)
variable {Φb : Bool → List Sl → Prop}
theorem eb_test (h : Ev K te as fun x as1 => ∃ b, x = .bool b ∧ Φb b as1) : EvB K (tTest te) as Φb := fun M F H σ Q e f S q =>
  h M F H σ _ e f S fun x as1 v F1 H1 ⟨b, e1, h1⟩ w1 S1 r1 => by
    subst e1; cases r1
    exact ⟨b, rfl, q _ _ F1 H1 h1 w1 S1⟩
theorem eb_B (h : Ev K te as fun x as1 => ∃ b, x = .bool b ∧ Φb b as1) : EvB K (tB te) as Φb := eb_test h
theorem eb_and (h : EvB K tt as fun b as1 => (b = true → EvB K tu as1 Φb) ∧ (b = false → Φb false as1)) : EvB K (tAnd tt tu) as Φb := fun M F H σ Q e f S q =>
  h M F H σ _ e f S fun b as1 F1 H1 ⟨h1, h2⟩ w1 S1 => by
    cases b with
    | true => exact h1 rfl M F1 H1 σ Q w1.fh (w1.fr f) S1 fun d as' F2 H2 a w2 => q d as' F2 H2 a (w1.trans w2)
    | false => exact q _ _ F1 H1 (h2 rfl) w1 S1
theorem eb_or (h : EvB K tt as fun b as1 => (b = false → EvB K tu as1 Φb) ∧ (b = true → Φb true as1)) : EvB K (tOr tt tu) as Φb := fun M F H σ Q e f S q =>
  h M F H σ _ e f S fun b as1 F1 H1 ⟨h1, h2⟩ w1 S1 => by
    cases b with
    | false => exact h1 rfl M F1 H1 σ Q w1.fh (w1.fr f) S1 fun d as' F2 H2 a w2 => q d as' F2 H2 a (w1.trans w2)
    | true => exact q _ _ F1 H1 (h2 rfl) w1 S1
theorem eb_not (h : EvB K tt as fun b as1 => Φb (!b) as1) : EvB K (tNot tt) as Φb := fun M F H σ Q e f S q =>
  h M F H σ _ e f S fun b as1 F1 H1 h1 w1 S1 => q _ _ F1 H1 h1 w1 S1
theorem eb_yes (h : Φb true as) : EvB K tYes as Φb := fun M F H σ Q e f S q => q _ _ F H h (Wx.refl e) S
/-- a op b op c -/
theorem ev_chain {r r' : R2} (h : Ev K ta as fun x as1 => Ev K tb as1 fun y as2 => RD K r x y fun d => ∃ b, d = .bool b ∧ (b = true → Ev K tc as2 fun z as3 => RD K r' y z fun d => Φ d as3) ∧ (b = false → Φ (.bool false) as2)) :
    Ev K (tChain r r' ta tb tc) as Φ := fun M F H σ Q e f S q => by
  refine h M F H σ _ e f S fun x as1 v F1 H1 h1 w1 S1 r1 => ?_
  refine h1 M F1 H1 σ _ w1.fh (w1.fr f) S1 fun y as2 u F2 H2 h2 w2 S2 r2 => ?_
  refine h2 F2 H2 v u _ w2.fh (Rp.mono w2.ff x r1) r2 fun d w F3 H3 ⟨b, e1, h3, h4⟩ w3 r3 => ?_
  subst e1; cases r3
  refine ⟨b, rfl, ?_⟩
  have w13 := (w1.trans w2).trans w3.wx
  cases b with
  | true =>
    show tc σ H3 _
    refine h3 rfl M F3 H3 σ _ w3.fh (w13.fr f) (S2.wd w3) fun z as3 u2 F4 H4 h5 w4 S4 r4 => ?_
    exact h5 F4 H4 u u2 Q w4.fh (Rp.mono w4.ff y (Rp.mono w3.ff y r2)) r4 fun d w F5 H5 h6 w5 r5 => q d as3 w F5 H5 h6 ((w13.trans w4).trans w5.wx) (S4.wd w5) r5
  | false => exact q _ _ _ F3 H3 (h4 rfl) w13 (S2.wd w3) (.bl _)
theorem ev_chainB {g g' : Int → Int → Bool} (h : Ev K ta as fun x as1 => Ev K tb as1 fun y as2 => ∃ i j, x = .int i ∧ y = .int j ∧ (g i j = true → Ev K tc as2 fun z as3 => ∃ k, z = .int k ∧ Φ (.bool (g' j k)) as3) ∧ (g i j = false → Φ (.bool false) as2)) :
    Ev K (tChain (rI0 fun i j => .bl (g i j)) (rI0 fun i j => .bl (g' i j)) ta tb tc) as Φ :=
  ev_chain (h.mono fun x as1 h1 => h1.mono fun y as2 ⟨i, j, e1, e2, h2, h3⟩ => rd_I0 (g' := fun i j => .bool (g i j)) (fun _ _ _ => .bl _) ⟨i, j, e1, e2, _, rfl, fun hb => (h2 hb).mono fun z as3 ⟨k, e3, h4⟩ =>
    rd_I0 (g' := fun i j => .bool (g' i j)) (fun _ _ _ => .bl _) ⟨j, k, e2, e3, h4⟩, h3⟩)
theorem ev_un {g : Int → Int} (h : Ev K ta as fun x as1 => ∃ i, x = .int i ∧ Φ (.int (g i)) as1) : Ev K (tUn (rU fun i => .int (g i)) ta) as Φ := fun M F H σ Q e f S q =>
  h M F H σ _ e f S fun x as1 v F1 H1 ⟨i, e1, h1⟩ w1 S1 r1 => by
    subst e1; cases r1
    exact ⟨i, rfl, q _ _ _ F1 H1 h1 w1 S1 (.int _)⟩
/-! ### arguments, displays -/
variable {tr : TA} {Φa : List PyData → List Sl → Prop}
theorem ea_nil (h : Φa [] as) : EvA K tNil as Φa := fun M F H σ Q e f S q => q _ _ _ F H h (Wx.refl e) S .nil
theorem ea_cons (h : Ev K te as fun x as1 => EvA K tr as1 fun xs as2 => Φa (x :: xs) as2) : EvA K (tCons te tr) as Φa := fun M F H σ Q e f S q =>
  h M F H σ _ e f S fun x as1 v F1 H1 h1 w1 S1 r1 => h1 M F1 H1 σ _ w1.fh (w1.fr f) S1 fun xs as2 vs F2 H2 h2 w2 S2 r2 => q _ _ _ F2 H2 h2 (w1.trans w2) S2 (.cons (Rp.mono w2.ff x r1) r2)
theorem ea_star (h : Ev K te as fun x as1 => ∃ ds, seqD x = some ds ∧ EvA K tr as1 fun xs as2 => Φa (ds ++ xs) as2) : EvA K (StX.tStar K te tr) as Φa := fun M F H σ Q e f S q =>
  h M F H σ _ e f S fun x as1 v F1 H1 ⟨ds, h0, h1⟩ w1 S1 r1 => by
    obtain ⟨a, xs, rfl, hs, rs⟩ := seqD_rp (K := K) w1.fh h0 r1
    exact ⟨a, xs, rfl, hs.symm, h1 M F1 H1 σ _ w1.fh (w1.fr f) S1 fun ys as2 vs F2 H2 h2 w2 S2 r2 => q _ _ _ F2 H2 h2 (w1.trans w2) S2 ((RpA.mono w2.ff ds rs).append r2)⟩
theorem szl {n : Nat} (h : n ≤ 100000) : n ≤ sizeLine := Nat.le_trans h (by decide)
theorem szlt {n : Nat} (h : n < 100000) : n < sizeLine := Nat.lt_of_lt_of_le h (by decide)
theorem ev_tup (h : EvA K tr as fun ds as1 => ds.length ≤ 100000 ∧ Φ (.tuple ds) as1) : Ev K (tTup tr) as Φ := fun M F H σ Q e f S q =>
  h M F H σ _ e f S fun ds as1 vs F1 H1 ⟨hl, h1⟩ w1 S1 r1 => ⟨by rw [r1.len]; exact szl hl, fun p hp => by
    have w2 := Wd.new w1.fh hp (.tup vs)
    exact q _ _ _ _ _ h1 (w1.trans w2.wx) (S1.wd w2) (.tup upd_same (RpA.mono w2.ff ds r1))⟩
theorem Sd.fresh (S : Sd K M F H σ as) {p : Addr} (h : H p = none) : ∀ (j : Nat) w, as[j]? ≠ some (.o p w) := fun j w e => (S.geto e).2.2.2.ne0 h
theorem en_lst (h : EvA K tr as fun ds as1 => ds.length ≤ 100000 ∧ Φ' (.lst ds) as1) : EvN K (tLst tr) as Φ' := fun M F H σ Q e f S q =>
  h M F H σ _ e f S fun ds as1 vs F1 H1 ⟨hl, h1⟩ w1 S1 r1 => ⟨by rw [r1.len]; exact szl hl, fun p hp => by
    have w2 := Wd.newo w1.fh hp (.lst vs)
    exact q _ _ _ _ _ h1 (w1.trans w2.wx) (S1.wd w2) (w1.fr f p hp) (same_none w1.fh hp) ⟨vs, upd_same, r1⟩ (S1.fresh hp)⟩
/-- a new object is known at once -/
theorem ev_new (h : EvN K te as fun u as1 => ∃ ds, u = .lst ds ∧ Φ (.list ds) as1) : Ev K te as Φ := fun M F H σ Q e f S q =>
  h M F H σ _ e f S fun u as1 a F1 H1 ⟨ds, e1, h1⟩ w1 S1 hM hF ho hn => by
    subst e1
    obtain ⟨xs, hx, rx⟩ := ho
    have w2 : Wx M F1 H1 (upd F1 a (.lst xs)) H1 := Wx.freeze w1.fh hM hF hx
    refine q _ _ _ _ H1 h1 (w1.trans w2) ⟨S1.len, fun i o s g1 g2 => ?_, S1.dis⟩ (.lst upd_same (RpA.mono w2.ff ds rx))
    have z := S1.at_ i o s g1 g2
    cases s with
    | e => trivial
    | d x => obtain ⟨v, z1, z2⟩ := z; exact ⟨v, z1, Rp.mono w2.ff x z2⟩
    | s ns => obtain ⟨b, z1, z2⟩ := z; exact ⟨b, z1, w2.ff.seq z2⟩
    | m kvs => obtain ⟨b, z1, z2⟩ := z; exact ⟨b, z1, w2.ff _ _ z2⟩
    | mt kvs => obtain ⟨b, z1, z2⟩ := z; exact ⟨b, z1, w2.ff _ _ z2⟩
    | o b v =>
      obtain ⟨z1, z2, z3, z4⟩ := z
      have ne : b ≠ a := fun q => hn i v (by rw [← q]; exact g2)
      refine ⟨z1, z2, by rw [upd_ne ne]; exact z3, ?_⟩
      cases v with
      | lst ds' => obtain ⟨ys, y1, y2⟩ := z4; exact ⟨ys, y1, RpA.mono w2.ff ds' y2⟩
      | dct kvs => exact z4
      | dtu kvs => exact z4
      | pot c => exact z4
theorem ev_lst (h : EvA K tr as fun ds as1 => ds.length ≤ 100000 ∧ Φ (.list ds) as1) : Ev K (tLst tr) as Φ := ev_new (en_lst (h.mono fun ds as1 ⟨h1, h2⟩ => ⟨h1, ds, rfl, h2⟩))
/-! ### slices -/
theorem eo_none {Φo : Option Int → List Sl → Prop} (h : Φo none as) : EvO K tNoPart as Φo := fun M F H σ Q e f S q => q _ _ F H h (Wx.refl e) S
theorem eo_some {Φo : Option Int → List Sl → Prop} (h : Ev K te as fun x as1 => ∃ i, x = .int i ∧ Φo (some i) as1) : EvO K (tPart te) as Φo := fun M F H σ Q e f S q =>
  h M F H σ _ e f S fun x as1 v F1 H1 ⟨i, e1, h1⟩ w1 S1 r1 => by
    subst e1; cases r1
    exact ⟨i, rfl, q _ _ F1 H1 h1 w1 S1⟩
def cutD (xs : List PyData) (lo hi : Option Int) : List PyData := (xs.drop (HT.sIx xs.length 0 lo)).take (HT.sIx xs.length xs.length hi - HT.sIx xs.length 0 lo)
theorem cut_rp {vs : List V} {ds : List PyData} (r : RpA F vs ds) (lo hi : Option Int) : RpA F (cutV vs lo hi) (cutD ds lo hi) := by
  unfold cutV cutD
  rw [r.len]
  exact (r.drop _).take _
variable {tl th : TO}
theorem ev_slL (h : Ev K te as fun x as1 => EvO K tl as1 fun lo as2 => EvO K th as2 fun hi as3 => ∃ ds, x = .list ds ∧ Φ (.list (cutD ds lo hi)) as3) : Ev K (tSl (rSlL K) te tl th) as Φ := fun M F H σ Q e f S q =>
  h M F H σ _ e f S fun x as1 v F1 H1 h1 w1 S1 r1 => h1 M F1 H1 σ _ w1.fh (w1.fr f) S1 fun lo as2 F2 H2 h2 w2 S2 => h2 M F2 H2 σ _ w2.fh (w2.fr (w1.fr f)) S2 fun hi as3 F3 H3 ⟨ds, e1, h3⟩ w3 S3 => by
    subst e1
    cases r1 with
    | @lst _ xs _ a b =>
      have w := (w1.trans w2).trans w3
      have e13 := w2.ff.trans w3.ff
      refine ⟨_, _, rfl, .inl (.inl (w3.fh _ _ (e13 _ _ a))), fun p hp => ?_⟩
      have w4 := Wd.new w3.fh hp (.lst (cutV xs lo hi))
      exact q _ _ _ _ _ h3 (w.trans w4.wx) (S3.wd w4) (.lst upd_same (RpA.mono w4.ff _ (RpA.mono e13 _ (cut_rp b lo hi))))
end
end Lp

set_option Elab.async false
set_option linter.all false
set_option maxRecDepth 100000
set_option maxHeartbeats 2000000
/-! Lp: built-ins, walks, comprehensions. -/
namespace Lp
open PySem PySem.Spec L2
section
variable {K : PySem.W.Frag} {M : Addr → Prop} {F H F' H' F'' H'' : Hp} {as : List Sl} {Φ : Φd} {ta tb tc te : TE} {tt tu : TT} {tr : TA}
/-! ### built-ins -/
def RC (r : List V → Hp → VK → Prop) (ds : List PyData) (Ψ : PyData → Prop) : Prop := ∀ (F H : Hp) (vs : List V) (Q : VK), Same F H → RpA F vs ds →
  (∀ d w F' H', Ψ d → Wd F H F' H' → Rp F' w d → Q w H') → r vs H Q
theorem ev_cb {r : List V → Hp → VK → Prop} (h : EvA K tr as fun ds as1 => RC r ds fun d => Φ d as1) : Ev K (tCB r tr) as Φ := fun M F H σ Q e f S q =>
  h M F H σ _ e f S fun ds as1 vs F1 H1 h1 w1 S1 r1 => h1 F1 H1 vs Q w1.fh r1 fun d w F2 H2 h2 w2 r2 => q d as1 w F2 H2 h2 (w1.trans w2.wx) (S1.wd w2) r2
theorem ev_cbD {r : List V → Hp → VK → Prop} {Ψ : List PyData → List Sl → Prop} (hr : ∀ ds as2, Ψ ds as2 → RC r ds fun d => Φ d as2) (h : EvA K tr as Ψ) : Ev K (tCB r tr) as Φ := ev_cb (h.mono hr)
abbrev rLenS (K : PySem.W.Frag) : List V → Hp → VK → Prop := fun xs H Q => ∃ p ys, xs = [.ref p] ∧ (SqL K H p ys ∨ SqT K H p ys) ∧ Q (.int ys.length) H
theorem ev_len (h : EvA K tr as fun ds as1 => ∃ x xs, ds = [x] ∧ seqD x = some xs ∧ Φ (.int xs.length) as1) : Ev K (tCB (rLenS K) tr) as Φ :=
  ev_cbD (fun ds as2 ⟨x, xs, e1, h1, h2⟩ F H vs Q e r q => by
    subst e1
    cases r with
    | cons r t =>
      cases t
      obtain ⟨a, ys, rfl, hs, rs⟩ := seqD_rp (K := K) e h1 r
      refine ⟨a, ys, rfl, hs, ?_⟩
      rw [rs.len]
      exact q _ _ F H h2 (Wd.refl e) (.int _)) h
abbrev rInt1 : List V → Hp → VK → Prop := fun xs H Q => (∃ i, xs = [.int i] ∧ Q (.int i) H) ∨ ∃ k, xs = [.bl k] ∧ Q (.int (if k then 1 else 0)) H
theorem ev_int1 (h : EvA K tr as fun ds as1 => ∃ i, ds = [.int i] ∧ Φ (.int i) as1) : Ev K (tCB rInt1 tr) as Φ :=
  ev_cbD (fun ds as2 ⟨i, e1, h2⟩ F H vs Q e r q => by
    subst e1
    cases r with
    | cons r t => cases t; cases r; exact .inl ⟨i, rfl, q _ _ F H h2 (Wd.refl e) (.int _)⟩) h
theorem ev_intB (h : EvA K tr as fun ds as1 => ∃ b : Bool, ds = [.bool b] ∧ Φ (.int (if b then 1 else 0)) as1) : Ev K (tCB rInt1 tr) as Φ :=
  ev_cbD (fun ds as2 ⟨i, e1, h2⟩ F H vs Q e r q => by
    subst e1
    cases r with
    | cons r t => cases t; cases r; exact .inr ⟨i, rfl, q _ _ F H h2 (Wd.refl e) (.int _)⟩) h
abbrev rAbs : List V → Hp → VK → Prop := fun xs H Q => ∃ i, xs = [.int i] ∧ Q (.int (if i < 0 then -i else i)) H
theorem ev_abs (h : EvA K tr as fun ds as1 => ∃ i : Int, ds = [.int i] ∧ Φ (.int (if i < 0 then -i else i)) as1) : Ev K (tCB rAbs tr) as Φ :=
  ev_cbD (fun ds as2 ⟨i, e1, h2⟩ F H vs Q e r q => by
    subst e1
    cases r with
    | cons r t => cases t; cases r; exact ⟨i, rfl, q _ _ F H h2 (Wd.refl e) (.int _)⟩) h
abbrev rMax2 : List V → Hp → VK → Prop := fun xs H Q => ∃ i j, xs = [.int i, .int j] ∧ Q (.int (if j > i then j else i)) H
abbrev rMin2 : List V → Hp → VK → Prop := fun xs H Q => ∃ i j, xs = [.int i, .int j] ∧ Q (.int (if j < i then j else i)) H
theorem ev_max2 (h : EvA K tr as fun ds as1 => ∃ i j : Int, ds = [.int i, .int j] ∧ Φ (.int (max i j)) as1) : Ev K (tCB rMax2 tr) as Φ :=
  ev_cbD (fun ds as2 ⟨i, j, e1, h2⟩ F H vs Q e r q => by
    subst e1
    cases r with
    | cons r t =>
      cases t with
      | cons r2 t =>
        cases t; cases r; cases r2
        refine ⟨i, j, rfl, q _ _ F H h2 (Wd.refl e) ?_⟩
        have : (if j > i then j else i) = max i j := by rw [Int.max_def]; split <;> split <;> omega
        rw [this]; exact .int _) h
theorem ev_min2 (h : EvA K tr as fun ds as1 => ∃ i j : Int, ds = [.int i, .int j] ∧ Φ (.int (min i j)) as1) : Ev K (tCB rMin2 tr) as Φ :=
  ev_cbD (fun ds as2 ⟨i, j, e1, h2⟩ F H vs Q e r q => by
    subst e1
    cases r with
    | cons r t =>
      cases t with
      | cons r2 t =>
        cases t; cases r; cases r2
        refine ⟨i, j, rfl, q _ _ F H h2 (Wd.refl e) ?_⟩
        have : (if j < i then j else i) = min i j := by rw [Int.min_def]; split <;> split <;> omega
        rw [this]; exact .int _) h
/-- one list argument -/
theorem one_lst {vs : List V} {ds : List PyData} (e : Same F H) (r : RpA F vs [.list ds]) : ∃ a xs, vs = [.ref a] ∧ F a = some (.lst xs) ∧ SqL K H a xs ∧ RpA F xs ds := by
  cases r with
  | cons r t =>
    cases t
    cases r with
    | lst a b => exact ⟨_, _, rfl, a, .inl (.inl (e _ _ a)), b⟩
theorem ev_sum (h : EvA K tr as fun ds as1 => ∃ ns : List Int, ds = [.list (ns.map PyData.int)] ∧ Φ (.int ns.sum) as1) : Ev K (tCB (rSum K) tr) as Φ :=
  ev_cbD (fun ds as2 ⟨ns, e1, h2⟩ F H vs Q e r q => by
    subst e1
    obtain ⟨a, xs, rfl, _, hs, rs⟩ := one_lst (K := K) e r
    have ex := RpA.ints rs; subst ex
    exact ⟨a, ns, rfl, hs, q _ _ F H h2 (Wd.refl e) (.int _)⟩) h
theorem ev_max (h : EvA K tr as fun ds as1 => ∃ ns : List Int, ds = [.list (ns.map PyData.int)] ∧ 0 < ns.length ∧ ∀ m, m ∈ ns → (∀ y, y ∈ ns → y ≤ m) → Φ (.int m) as1) : Ev K (tCB (rMax K) tr) as Φ :=
  ev_cbD (fun ds as2 ⟨ns, e1, h1, h2⟩ F H vs Q e r q => by
    subst e1
    obtain ⟨a, xs, rfl, _, hs, rs⟩ := one_lst (K := K) e r
    have ex := RpA.ints rs; subst ex
    exact ⟨a, ns, rfl, hs, h1, fun m m1 m2 => q _ _ F H (h2 m m1 m2) (Wd.refl e) (.int _)⟩) h
theorem ev_min (h : EvA K tr as fun ds as1 => ∃ ns : List Int, ds = [.list (ns.map PyData.int)] ∧ 0 < ns.length ∧ ∀ m, m ∈ ns → (∀ y, y ∈ ns → m ≤ y) → Φ (.int m) as1) : Ev K (tCB (rMin K) tr) as Φ :=
  ev_cbD (fun ds as2 ⟨ns, e1, h1, h2⟩ F H vs Q e r q => by
    subst e1
    obtain ⟨a, xs, rfl, _, hs, rs⟩ := one_lst (K := K) e r
    have ex := RpA.ints rs; subst ex
    exact ⟨a, ns, rfl, hs, h1, fun m m1 m2 => q _ _ F H (h2 m m1 m2) (Wd.refl e) (.int _)⟩) h
theorem ev_all (h : EvA K tr as fun ds as1 => ∃ bs : List Bool, ds = [.list (bs.map PyData.bool)] ∧ Φ (.bool (bs.all id)) as1) : Ev K (tCB (rAll K) tr) as Φ :=
  ev_cbD (fun ds as2 ⟨ns, e1, h2⟩ F H vs Q e r q => by
    subst e1
    obtain ⟨a, xs, rfl, _, hs, rs⟩ := one_lst (K := K) e r
    have ex := RpA.bools rs; subst ex
    exact ⟨a, ns, rfl, hs, q _ _ F H h2 (Wd.refl e) (.bl _)⟩) h
theorem ev_any (h : EvA K tr as fun ds as1 => ∃ bs : List Bool, ds = [.list (bs.map PyData.bool)] ∧ Φ (.bool (bs.any id)) as1) : Ev K (tCB (rAny K) tr) as Φ :=
  ev_cbD (fun ds as2 ⟨ns, e1, h2⟩ F H vs Q e r q => by
    subst e1
    obtain ⟨a, xs, rfl, _, hs, rs⟩ := one_lst (K := K) e r
    have ex := RpA.bools rs; subst ex
    exact ⟨a, ns, rfl, hs, q _ _ F H h2 (Wd.refl e) (.bl _)⟩) h
theorem ev_sortedI (h : EvA K tr as fun ds as1 => ∃ ns : List Int, ds = [.list (ns.map PyData.int)] ∧ ∀ ms : List Int, ms.Perm ns → ms.Pairwise (· ≤ ·) → Φ (.list (ms.map PyData.int)) as1) : Ev K (tCB (rSortedI K) tr) as Φ :=
  ev_cbD (fun ds as2 ⟨ns, e1, h2⟩ F H vs Q e r q => by
    subst e1
    obtain ⟨a, xs, rfl, _, hs, rs⟩ := one_lst (K := K) e r
    have ex := RpA.ints rs; subst ex
    refine ⟨a, ns, rfl, hs, fun ms p pm pw hp => ?_⟩
    exact q _ _ _ _ (h2 ms pm pw) (Wd.new e hp _) (.lst upd_same (RpA.ofInts ms))) h
def pairD (p : Int × Int) : PyData := .tuple [.int p.1, .int p.2]
/-- x at or ahead of y: by the first, then the second -/
def leP (x y : Int × Int) : Prop := x.1 < y.1 ∨ (x.1 = y.1 ∧ x.2 ≤ y.2)
/-- what a pair's value stands for -/
noncomputable def pairAt (F : Hp) (v : V) : Int × Int := match v with
  | .ref a => match F a with
    | some (.tup [.int i, .int j]) => (i, j)
    | _ => (0, 0)
  | _ => (0, 0)
theorem pair_rp {v : V} {p : Int × Int} (r : Rp F v (pairD p)) : ∃ t, v = .ref t ∧ F t = some (.tup [.int p.1, .int p.2]) ∧ pairAt F v = p := by
  cases r with
  | tup a b =>
    cases b with
    | cons r1 t =>
      cases t with
      | cons r2 t =>
        cases t; cases r1; cases r2
        exact ⟨_, rfl, a, by simp [pairAt, a]⟩
theorem pairs_at : ∀ {xs : List V} {ps : List (Int × Int)}, RpA F xs (ps.map pairD) → xs.map (pairAt F) = ps
  | _, [], h => by cases h; rfl
  | _, p :: ps, h => by
    cases h with
    | cons r t =>
      obtain ⟨_, _, _, h5⟩ := pair_rp r
      rw [List.map_cons, h5, pairs_at t]
theorem ev_sortedP (h : EvA K tr as fun ds as1 => ∃ ps : List (Int × Int), ds = [.list (ps.map pairD)] ∧ ∀ qs : List (Int × Int), qs.Perm ps → qs.Pairwise leP → Φ (.list (qs.map pairD)) as1) : Ev K (tCB (rSortedPO K) tr) as Φ :=
  ev_cbD (fun ds as2 ⟨ps, e1, h2⟩ F H vs Q e r q => by
    subst e1
    obtain ⟨a, xs, rfl, _, hs, rs⟩ := one_lst (K := K) e r
    have hx : ∀ x ∈ xs, ∃ t p, x = V.ref t ∧ F t = some (.tup [.int (pairAt F x).1, .int (pairAt F x).2]) ∧ p ∈ ps ∧ Rp F x (pairD p) := fun x hx => by
      obtain ⟨i, hi⟩ := List.mem_iff_getElem?.mp hx
      obtain ⟨d, h1, h2⟩ := rs.get hi
      rw [List.getElem?_map] at h1
      obtain ⟨p, h3, rfl⟩ := Option.map_eq_some_iff.mp h1
      obtain ⟨t, rfl, h4, h5⟩ := pair_rp h2
      exact ⟨t, p, rfl, by rw [h5]; exact h4, List.mem_of_getElem? h3, h2⟩
    have hxs : xs.map (pairAt F) = ps := pairs_at rs
    refine ⟨a, xs, pairAt F, rfl, hs, fun x m => ?_, fun ys p s1 s2 hp => ?_⟩
    · obtain ⟨t, p, h1, h3, _⟩ := hx x m
      exact ⟨t, h1, e _ _ h3⟩
    · have pm := s2.perm
      have rp : RpA F ys ((ys.map (pairAt F)).map pairD) := by
        have hm : ∀ y ∈ ys, Rp F y (pairD (pairAt F y)) := fun y hy => by
          obtain ⟨t, p, _, _, _, h6⟩ := hx y (pm.mem_iff.mp hy)
          obtain ⟨_, _, _, h7⟩ := pair_rp h6
          rw [h7]; exact h6
        clear s1 s2 pm
        induction ys with
        | nil => exact .nil
        | cons y ys ih => exact .cons (hm y List.mem_cons_self) (ih fun z hz => hm z (List.mem_cons_of_mem _ hz))
      have w := Wd.new e hp (.lst ys)
      refine q _ _ _ _ (h2 (ys.map (pairAt F)) ?_ ?_) w (.lst upd_same (RpA.mono w.ff _ rp))
      · rw [← hxs]; exact pm.map _
      · rw [List.pairwise_map]
        refine s1.imp fun {x y} h => ?_
        have := SrtO.lexB_no.mp h
        unfold leP
        omega) h
abbrev rTupOf (K : PySem.W.Frag) : List V → Hp → VK → Prop := fun xs H Q => ∃ p ys, xs = [.ref p] ∧ ((SqL K H p ys ∧ ∀ l, H l = none → Q (.ref l) (upd H l (.tup ys))) ∨ (SqT K H p ys ∧ Q (.ref p) H))
theorem ev_tupOf (h : EvA K tr as fun ds as1 => ∃ xs, ds = [.list xs] ∧ Φ (.tuple xs) as1) : Ev K (tCB (rTupOf K) tr) as Φ :=
  ev_cbD (fun ds as2 ⟨ns, e1, h2⟩ F H vs Q e r q => by
    subst e1
    obtain ⟨a, xs, rfl, _, hs, rs⟩ := one_lst (K := K) e r
    refine ⟨a, xs, rfl, .inl ⟨hs, fun l hl => ?_⟩⟩
    have w := Wd.new e hl (.tup xs)
    exact q _ _ _ _ h2 w (.tup upd_same (RpA.mono w.ff _ rs))) h
theorem ev_tupOfT (h : EvA K tr as fun ds as1 => ∃ xs, ds = [.tuple xs] ∧ Φ (.tuple xs) as1) : Ev K (tCB (rTupOf K) tr) as Φ :=
  ev_cbD (fun ds as2 ⟨ns, e1, h2⟩ F H vs Q e r q => by
    subst e1
    cases r with
    | cons r t =>
      cases t
      cases r with
      | tup a b => exact ⟨_, _, rfl, .inr ⟨.inl (.inl (e _ _ a)), q _ _ F H h2 (Wd.refl e) (.tup a b)⟩⟩) h
abbrev rLstOf (K : PySem.W.Frag) : List V → Hp → VK → Prop := fun xs H Q => ∃ p ys, xs = [.ref p] ∧ (SqL K H p ys ∨ SqT K H p ys) ∧ ∀ l, H l = none → Q (.ref l) (upd H l (.lst ys))
variable {Φn : OD → List Sl → Prop}
theorem en_lstOf (h : EvA K tr as fun ds as1 => ∃ x xs, ds = [x] ∧ seqD x = some xs ∧ Φn (.lst xs) as1) : EvN K (tCB (rLstOf K) tr) as Φn := fun M F H σ Q e f S q =>
  h M F H σ _ e f S fun ds as1 vs F1 H1 ⟨x, xs, e1, h1, h2⟩ w1 S1 r1 => by
    subst e1
    cases r1 with
    | cons r t =>
      cases t
      obtain ⟨a, ys, rfl, hs, rs⟩ := seqD_rp (K := K) w1.fh h1 r
      refine ⟨a, ys, rfl, hs, fun p hp => ?_⟩
      have w2 := Wd.newo w1.fh hp (.lst ys)
      exact q _ _ _ _ _ h2 (w1.trans w2.wx) (S1.wd w2) (w1.fr f p hp) (same_none w1.fh hp) ⟨ys, upd_same, rs⟩ (S1.fresh hp)
/-! ### isinstance -/
def tyD : PyData → String
  | .none => "NoneType"
  | .bool _ => "bool"
  | .int _ => "int"
  | .str _ => "str"
  | .list _ => "list"
  | .tuple _ => "tuple"
  | .dict _ => "dict"
theorem tyx_rp {v : V} {d : PyData} (e : Same F H) (r : Rp F v d) : TyX K H v (.type (tyD d)) := by
  cases r with
  | non => exact .base .non
  | bl b => exact .base (.bl b)
  | int i => exact .base (.int i)
  | str x => exact .base (.str x)
  | lst a b => exact .base (.lst (e _ _ a))
  | tup a b => exact .base (.tup (e _ _ a))
theorem ev_isi {T : String} (h : Ev K te as fun x as1 => ∃ b, PySem.W.kitOne K (.type (tyD x)) (.type T) = some b ∧ Φ (.bool b) as1) : Ev K (tCB (rIsi K) (tCons te (tCons (tC (.ty T)) tNil))) as Φ := fun M F H σ Q e f S q =>
  h M F H σ _ e f S fun x as1 v F1 H1 ⟨b, h1, h2⟩ w1 S1 r1 => ⟨v, .ty T, _, _, b, rfl, .ty T, tyx_rp w1.fh r1, h1, q _ _ _ _ _ h2 w1 S1 (.bl b)⟩
/-! ### slices of tuples, + of lists and tuples -/
variable {tl th : TO}
theorem cutV_whole {xs : List V} {lo hi : Option Int} (h : HT.sIx xs.length 0 lo = 0 ∧ HT.sIx xs.length xs.length hi = xs.length) : cutV xs lo hi = xs := by
  unfold cutV
  rw [h.1, h.2]
  simp
theorem ev_slT (h : Ev K te as fun x as1 => EvO K tl as1 fun lo as2 => EvO K th as2 fun hi as3 => ∃ ds, x = .tuple ds ∧ Φ (.tuple (cutD ds lo hi)) as3) : Ev K (tSl (rSlA K) te tl th) as Φ := fun M F H σ Q e f S q =>
  h M F H σ _ e f S fun x as1 v F1 H1 h1 w1 S1 r1 => h1 M F1 H1 σ _ w1.fh (w1.fr f) S1 fun lo as2 F2 H2 h2 w2 S2 => h2 M F2 H2 σ _ w2.fh (w2.fr (w1.fr f)) S2 fun hi as3 F3 H3 ⟨ds, e1, h3⟩ w3 S3 => by
    subst e1
    cases r1 with
    | @tup _ xs _ a b =>
      have w := (w1.trans w2).trans w3
      have e13 := w2.ff.trans w3.ff
      have rc := RpA.mono e13 _ (cut_rp b lo hi)
      refine ⟨_, xs, rfl, .inl (.inl (w3.fh _ _ (e13 _ _ a))), fun hw => ?_, fun hw p hp => ?_⟩
      · rw [cutV_whole hw] at rc
        exact q _ _ _ _ _ h3 w S3 (.tup (e13 _ _ a) rc)
      · have w4 := Wd.new w3.fh hp (.tup (cutV xs lo hi))
        exact q _ _ _ _ _ h3 (w.trans w4.wx) (S3.wd w4) (.tup upd_same (RpA.mono w4.ff _ rc))
theorem ev_cat (h : Ev K ta as fun x as1 => Ev K tb as1 fun y as2 => ∃ xs ys, x = .list xs ∧ y = .list ys ∧ xs.length + ys.length ≤ 100000 ∧ Φ (.list (xs ++ ys)) as2) : Ev K (tOp rCat ta tb) as Φ :=
  ev_opD (fun x y as2 ⟨xs, ys, e1, e2, hl, h2⟩ F H v u Q e r1 r2 q => by
    subst e1 e2
    cases r1 with
    | @lst _ vs _ a b =>
      cases r2 with
      | @lst _ ws _ a' b' =>
        refine ⟨_, _, vs, ws, rfl, rfl, e _ _ a, e _ _ a', by rw [b.len, b'.len]; exact szl hl, fun p hp => ?_⟩
        have w := Wd.new e hp (.lst (vs ++ ws))
        exact q _ _ _ _ h2 w (.lst upd_same (RpA.mono w.ff _ (b.append b')))) h
/-! ### walks -/
/-- what is walked gives these data, one after another -/
def WalkD (J : It) (ds : List PyData) (F : Hp) : Prop := ∃ (G : Hp → Prop) (Y : Nat → Hp → V → Hp → Prop), Walk J ds.length G Y ∧ (∀ H2, Same F H2 → G H2) ∧
  ∀ i H x H' F1, i < ds.length → Same F F1 → Same F1 H → Y i H x H' → ∃ d F2, ds[i]? = some d ∧ Wd F1 H F2 H' ∧ Rp F2 x d
def EvI (K : PySem.W.Frag) (wi : TI) (as : List Sl) (Φ : List PyData → List Sl → Prop) : Prop := ∀ (M : Addr → Prop) (F H : Hp) (σ : L2.St) (R : It → Hp → Prop), Same F H → Fr M H → Sd K M F H σ as →
  (∀ ds as' F' H' J, Φ ds as' → Wx M F H F' H' → Sd K M F' H' σ as' → WalkD J ds F' → R J H') → wi σ H R
variable {Φa : List PyData → List Sl → Prop}
theorem EvI.mono {wi : TI} {Ψ Φ : List PyData → List Sl → Prop} (h : EvI K wi as Ψ) (k : ∀ d as', Ψ d as' → Φ d as') : EvI K wi as Φ := fun M F H σ Q e f S q => h M F H σ Q e f S fun d as' F' H' J a => q d as' F' H' J (k d as' a)
theorem yat {vs : List V} {ds : List PyData} (r : RpA F vs ds) {i : Nat} {H H' : Hp} {x : V} {F1 : Hp} (e1 : Same F F1) (e2 : Same F1 H) (y : YAt vs i H x H') : ∃ d F2, ds[i]? = some d ∧ Wd F1 H F2 H' ∧ Rp F2 x d := by
  obtain ⟨rfl, hx⟩ := y
  obtain ⟨d, h1, h2⟩ := r.get hx
  exact ⟨d, F1, h1, Wd.refl e2, Rp.mono e1 d h2⟩
theorem ei_list (h : Ev K te as fun x as1 => ∃ ds, x = .list ds ∧ Φa ds as1) : EvI K (iList K te) as Φa := fun M F H σ R e f S q =>
  h M F H σ _ e f S fun x as1 v F1 H1 ⟨ds, e1, h1⟩ w1 S1 r1 => by
    subst e1
    cases r1 with
    | @lst a vs _ hx rx =>
      refine ⟨a, rfl, ⟨vs, .inl (.inl (w1.fh _ _ hx))⟩, q _ _ _ _ _ h1 w1 S1 ⟨_, _, (by rw [← rx.len]; exact walk_list), fun H2 e2 => SqL.of (e2 _ _ hx), fun i H x H' F2 _ e2 e3 y => yat rx e2 e3 y⟩⟩
theorem ei_tup (h : Ev K te as fun x as1 => ∃ ds, x = .tuple ds ∧ Φa ds as1) : EvI K (iTup K te) as Φa := fun M F H σ R e f S q =>
  h M F H σ _ e f S fun x as1 v F1 H1 ⟨ds, e1, h1⟩ w1 S1 r1 => by
    subst e1
    cases r1 with
    | @tup a vs _ hx rx =>
      refine ⟨a, rfl, ⟨vs, .inl (.inl (w1.fh _ _ hx))⟩, q _ _ _ _ _ h1 w1 S1 ⟨_, _, (by rw [← rx.len]; exact walk_tup), fun H2 e2 => SqT.of (e2 _ _ hx), fun i H x H' F2 _ e2 e3 y => yat rx e2 e3 y⟩⟩
def rangeI (lo : Int) (n : Nat) : List Int := (List.range n).map fun (i : Nat) => lo + (i : Int)
theorem rangeI_len (lo : Int) (n : Nat) : (rangeI lo n).length = n := by simp [rangeI]
theorem rangeI_get {lo : Int} {n i : Nat} (h : i < n) : (rangeI lo n)[i]? = some (lo + i) := by simp [rangeI, h]
theorem walk_rng {lo : Int} {n : Nat} : WalkD (Itr lo n) ((rangeI lo n).map PyData.int) F :=
  ⟨_, _, (by rw [List.length_map, rangeI_len]; exact walk_range), fun _ _ => trivial, fun i H x H' F1 hi e1 e2 y => by
    obtain ⟨rfl, rfl⟩ := y
    rw [List.length_map, rangeI_len] at hi
    exact ⟨_, F1, by rw [List.getElem?_map, rangeI_get hi]; rfl, Wd.refl e2, .int _⟩⟩
theorem ei_rng1 (h : EvA K tr as fun xs as1 => ∃ n : Int, xs = [.int n] ∧ n ≤ 100000 ∧ -100000 ≤ n ∧ Φa ((rangeI 0 n.toNat).map PyData.int) as1) : EvI K (iRng1 tr) as Φa := fun M F H σ R e f S q =>
  h M F H σ _ e f S fun xs as1 vs F1 H1 ⟨n, e1, n1, n2, h1⟩ w1 S1 r1 => by
    subst e1
    cases r1 with
    | cons r t =>
      cases t; cases r
      exact ⟨n, rfl, by omega, by omega, q _ _ _ _ _ h1 w1 S1 walk_rng⟩
theorem ei_rng2 (h : EvA K tr as fun xs as1 => ∃ m n : Int, xs = [.int m, .int n] ∧ (m ≤ 100000 ∧ -100000 ≤ m) ∧ (n ≤ 100000 ∧ -100000 ≤ n) ∧ Φa ((rangeI m (n - m).toNat).map PyData.int) as1) : EvI K (iRng2 tr) as Φa := fun M F H σ R e f S q =>
  h M F H σ _ e f S fun xs as1 vs F1 H1 ⟨m, n, e1, n1, n2, h1⟩ w1 S1 r1 => by
    subst e1
    cases r1 with
    | cons r t =>
      cases t with
      | cons r2 t =>
        cases t; cases r; cases r2
        exact ⟨m, n, rfl, ⟨by omega, by omega, by omega, by omega⟩, q _ _ _ _ _ h1 w1 S1 walk_rng⟩
theorem new_pair {x y : V} {d e : PyData} {T : Addr} (e2 : Same F H) (nT : H T = none) (r1 : Rp F x d) (r2 : Rp F y e) : ∃ F2, Wd F H F2 (upd H T (.tup [x, y])) ∧ Rp F2 (.ref T) (.tuple [d, e]) :=
  ⟨_, Wd.new e2 nT _, .tup upd_same (.cons (Rp.mono (Wd.new e2 nT (.tup [x, y])).ff d r1) (.cons (Rp.mono (Wd.new e2 nT (.tup [x, y])).ff e r2) .nil))⟩
def zipD (xs ys : List PyData) : List PyData := (xs.zip ys).map fun p => .tuple [p.1, p.2]
theorem zipD_len (xs ys : List PyData) : (zipD xs ys).length = min xs.length ys.length := by simp [zipD]
theorem zipD_get {xs ys : List PyData} {i : Nat} {d e : PyData} (h1 : xs[i]? = some d) (h2 : ys[i]? = some e) : (zipD xs ys)[i]? = some (.tuple [d, e]) := by
  have h3 : (xs.zip ys)[i]? = some (d, e) := List.getElem?_zip_eq_some.mpr ⟨h1, h2⟩
  unfold zipD
  rw [List.getElem?_map, h3]
  rfl
theorem walk_zipT' {K : PySem.W.Frag} {a b : Addr} {xs ys : List V} {n : Nat} (hn : n = min xs.length ys.length) : Walk (RZ.ItzT K a b) n (fun H => SqT K H a xs ∧ SqT K H b ys) (YPair (fun i => xs[i]?) (fun i => ys[i]?)) := by
  subst hn
  refine ⟨fun i _ hi q => ?_, fun _ q => ⟨xs, ys, q.1, q.2, by omega⟩, fun i H v H' _ q y => ?_⟩
  · have h1 : i < xs.length := by omega
    have h2 : i < ys.length := by omega
    exact ⟨xs, ys, xs[i], ys[i], q.1, q.2, by simp [h1], by simp [h2]⟩
  · obtain ⟨T, x, z, h1, h2, h3, h4, h5⟩ := y
    exact ⟨T, x, z, h1, h2, h3, h4 xs q.1, h5 ys q.2⟩
theorem ypair {xs ys : List V} {ds es : List PyData} (r : RpA F xs ds) (r' : RpA F ys es) {i : Nat} {H H' : Hp} {x : V} {F1 : Hp} (e1 : Same F F1) (e2 : Same F1 H) (y : YPair (fun i => xs[i]?) (fun i => ys[i]?) i H x H') :
    ∃ d F2, (zipD ds es)[i]? = some d ∧ Wd F1 H F2 H' ∧ Rp F2 x d := by
  obtain ⟨T, p, z, rfl, nT, rfl, h1, h2⟩ := y
  obtain ⟨d, g1, g2⟩ := r.get h1
  obtain ⟨e, g3, g4⟩ := r'.get h2
  obtain ⟨F2, w, k⟩ := new_pair e2 nT (Rp.mono e1 d g2) (Rp.mono e1 e g4)
  exact ⟨_, F2, zipD_get g1 g3, w, k⟩
/-- zip of two lists, of two tuples -/
theorem ei_zip (h : EvA K tr as fun zs as1 => ∃ xs ys, (zs = [.list xs, .list ys] ∨ zs = [.tuple xs, .tuple ys]) ∧ Φa (zipD xs ys) as1) : EvI K (RZ.iZipA K tr) as Φa := fun M F H σ R e f S q =>
  h M F H σ _ e f S fun zs as1 vs F1 H1 ⟨xs, ys, e1, h1⟩ w1 S1 r1 => by
    rcases e1 with e1 | e1
    · subst e1
      cases r1 with
      | cons r t =>
        cases t with
        | cons r2 t =>
          cases t
          cases r with
          | @lst a us _ hx rx =>
            cases r2 with
            | @lst b ws _ hy ry =>
              refine ⟨a, b, us, ws, rfl, .inl ⟨.inl (.inl (w1.fh _ _ hx)), .inl (.inl (w1.fh _ _ hy)), q _ _ _ _ _ h1 w1 S1 ⟨_, _, walk_zip (by rw [zipD_len, ← rx.len, ← ry.len]), fun H2 e2 => ⟨.inl (.inl (e2 _ _ hx)), .inl (.inl (e2 _ _ hy))⟩, fun i H x H' F2 _ e2 e3 y => ypair rx ry e2 e3 y⟩⟩⟩
    · subst e1
      cases r1 with
      | cons r t =>
        cases t with
        | cons r2 t =>
          cases t
          cases r with
          | @tup a us _ hx rx =>
            cases r2 with
            | @tup b ws _ hy ry =>
              refine ⟨a, b, us, ws, rfl, .inr ⟨.inl (.inl (w1.fh _ _ hx)), .inl (.inl (w1.fh _ _ hy)), q _ _ _ _ _ h1 w1 S1 ⟨_, _, walk_zipT' (by rw [zipD_len, ← rx.len, ← ry.len]), fun H2 e2 => ⟨.inl (.inl (e2 _ _ hx)), .inl (.inl (e2 _ _ hy))⟩, fun i H x H' F2 _ e2 e3 y => ypair rx ry e2 e3 y⟩⟩⟩
def enumD (xs : List PyData) : List PyData := zipD ((rangeI 0 xs.length).map PyData.int) xs
theorem ei_enum (h : EvA K tr as fun zs as1 => ∃ xs, zs = [.list xs] ∧ Φa (enumD xs) as1) : EvI K (iEnum K tr) as Φa := fun M F H σ R e f S q =>
  h M F H σ _ e f S fun zs as1 vs F1 H1 ⟨xs, e1, h1⟩ w1 S1 r1 => by
    subst e1
    obtain ⟨a, us, rfl, hx, hs, rx⟩ := one_lst (K := K) w1.fh r1
    have hl : (enumD xs).length = us.length := by unfold enumD; rw [zipD_len, List.length_map, rangeI_len, rx.len, Nat.min_self]
    refine ⟨a, us, rfl, hs, q _ _ _ _ _ h1 w1 S1 ⟨_, _, (by rw [hl]; exact walk_enum), fun H2 e2 => SqL.of (e2 _ _ hx), fun i H x H' F2 hi e2 e3 y => ?_⟩⟩
    obtain ⟨T, p, z, rfl, nT, rfl, g1, g2⟩ := y
    cases g1
    obtain ⟨d, g3, g4⟩ := rx.get g2
    obtain ⟨F3, w, k⟩ := new_pair e3 nT (.int (i : Nat)) (Rp.mono e2 d g4)
    rw [hl, rx.len] at hi
    refine ⟨_, F3, zipD_get ?_ g3, w, k⟩
    rw [List.getElem?_map, rangeI_get hi, Int.zero_add]
    rfl
/-! ### targets -/
/-- a target takes data: js its slots -/
def EvG (K : PySem.W.Frag) (g : TG) (js : List Nat) (x : PyData) (as : List Sl) (Φ : List Sl → Prop) : Prop := ∀ (M : Addr → Prop) (F H : Hp) (σ : L2.St) (v : V) (Q : L2.St → Hp → Prop), Same F H → Fr M H → Sd K M F H σ as → Rp F v x →
  (∀ as' σ', Φ as' → Sd K M F H σ' as' → σ'.length = σ.length → (∀ k, k ∉ js → σ'[k]? = σ[k]?) → Q σ' H) → g v σ H Q
theorem EvG.mono {g : TG} {js : List Nat} {x : PyData} {Ψ Φ : List Sl → Prop} (h : EvG K g js x as Ψ) (k : ∀ as', Ψ as' → Φ as') : EvG K g js x as Φ := fun M F H σ v Q e f S r q => h M F H σ v Q e f S r fun as' σ' a => q as' σ' (k as' a)
theorem eg_name {i : Nat} {x : PyData} {Φ : List Sl → Prop} (h : Φ (as.set i (.d x))) : EvG K (gName i) [i] x as Φ := fun M F H σ v Q e f S r q =>
  q _ _ h (S.set i ⟨v, rfl, r⟩ fun _ _ z => nomatch z) (List.length_set ..) fun k hk => List.getElem?_set_ne fun z => hk (by simp [z])
def EvGs (K : PySem.W.Frag) (g : TGs) (js : List Nat) (xs : List PyData) (as : List Sl) (Φ : List Sl → Prop) : Prop := ∀ (M : Addr → Prop) (F H : Hp) (σ : L2.St) (vs : List V) (Q : L2.St → Hp → Prop), Same F H → Fr M H → Sd K M F H σ as → RpA F vs xs →
  (∀ as' σ', Φ as' → Sd K M F H σ' as' → σ'.length = σ.length → (∀ k, k ∉ js → σ'[k]? = σ[k]?) → Q σ' H) → g vs σ H Q
theorem egs_nil {Φ : List Sl → Prop} (h : Φ as) : EvGs K gNil [] [] as Φ := fun M F H σ vs Q e f S r q => by
  cases r
  exact ⟨rfl, q _ _ h S rfl fun _ _ => rfl⟩
theorem egs_cons {g : TG} {gs : TGs} {js ks : List Nat} {x : PyData} {xs : List PyData} {Φ : List Sl → Prop} (h : EvG K g js x as fun as1 => EvGs K gs ks xs as1 Φ) : EvGs K (gCons g gs) (js ++ ks) (x :: xs) as Φ := fun M F H σ vs Q e f S r q => by
  cases r with
  | cons r t =>
    exact ⟨_, _, rfl, h M F H σ _ _ e f S r fun as1 σ1 h1 S1 l1 k1 => h1 M F H σ1 _ Q e f S1 t fun as2 σ2 h2 S2 l2 k2 => q as2 σ2 h2 S2 (l2.trans l1) fun k hk => by
      rw [List.mem_append, not_or] at hk
      rw [k2 k hk.2, k1 k hk.1]⟩
theorem eg_tup {n : Nat} {gs : TGs} {js : List Nat} {x : PyData} {Φ : List Sl → Prop} (h : ∃ xs, x = .tuple xs ∧ xs.length = n ∧ EvGs K gs js xs as Φ) : EvG K (gTup K n gs) js x as Φ := fun M F H σ v Q e f S r q => by
  obtain ⟨xs, rfl, hl, h⟩ := h
  cases r with
  | tup a b => exact ⟨_, _, rfl, .inl (.inl (e _ _ a)), by rw [b.len]; exact hl, h M F H σ _ Q e f S b q⟩
/-! ### comprehensions -/
def wipeS (as : List Sl) : List Nat → List Sl
  | [] => as
  | v :: vs => (wipeS as vs).set v .e
def keepS : Sl → Sl
  | .o _ _ => .e
  | s => s
/-- behind the block: its own names' slots are what they were -/
def patch (as' as : List Sl) : List Nat → List Sl
  | [] => as'
  | v :: vs => (patch as' as vs).set v (keepS (as.getD v .e))
theorem wipeS_len (as : List Sl) : ∀ vs, (wipeS as vs).length = as.length
  | [] => rfl
  | v :: vs => by unfold wipeS; rw [List.length_set, wipeS_len as vs]
theorem Sd.wipe {σ : L2.St} (S : Sd K M F H σ as) : ∀ vs, Sd K M F H (wipe σ vs) (wipeS as vs)
  | [] => S
  | v :: vs => (S.wipe vs).set v trivial fun _ _ z => nomatch z
theorem wipe_same {σ σ' : L2.St} {js : List Nat} (hl : σ'.length = σ.length) (hk : ∀ k, k ∉ js → σ'[k]? = σ[k]?) : ∀ {vs : List Nat}, (∀ j ∈ js, j ∈ vs) → L2.wipe σ' vs = L2.wipe σ vs := by
  have gen : ∀ (vs : List Nat) (k : Nat) (τ : L2.St), k ∉ vs → (L2.wipe τ vs)[k]? = τ[k]? := by
    intro vs k τ h
    induction vs with
    | nil => rfl
    | cons v vs ih =>
      unfold L2.wipe
      rw [List.getElem?_set_ne (fun z => h (by simp [z]))]
      exact ih fun z => h (List.mem_cons_of_mem _ z)
  have gin : ∀ (vs : List Nat) (k : Nat) (τ : L2.St), k ∈ vs → k < τ.length → (L2.wipe τ vs)[k]? = some none := by
    intro vs k τ h hlt
    induction vs with
    | nil => cases h
    | cons v vs ih =>
      unfold L2.wipe
      by_cases e : v = k
      · subst e
        rw [List.getElem?_set_self (by rw [wipe_length]; exact hlt)]
      · rw [List.getElem?_set_ne e]
        rcases List.mem_cons.mp h with z | z
        · exact absurd z.symm e
        · exact ih z
  intro vs hj
  apply List.ext_getElem?
  intro k
  by_cases hv : k ∈ vs
  · by_cases hlt : k < σ.length
    · rw [gin vs k σ' hv (by rw [hl]; exact hlt), gin vs k σ hv hlt]
    · rw [List.getElem?_eq_none (by rw [wipe_length, hl]; omega), List.getElem?_eq_none (by rw [wipe_length]; omega)]
  · rw [gen vs k σ' hv, gen vs k σ hv]
    exact hk k fun z => hv (hj k z)
theorem wipe_wipe {σ : L2.St} {vs : List Nat} : L2.wipe (L2.wipe σ vs) vs = L2.wipe σ vs :=
  wipe_same (js := vs) (wipe_length σ vs) (fun k hk => by
    have gen : ∀ (ws : List Nat) (τ : L2.St), k ∉ ws → (L2.wipe τ ws)[k]? = τ[k]? := by
      intro ws τ h
      induction ws with
      | nil => rfl
      | cons v ws ih =>
        unfold L2.wipe
        rw [List.getElem?_set_ne (fun z => h (by simp [z]))]
        exact ih fun z => h (List.mem_cons_of_mem _ z)
    exact gen vs σ hk) fun j hj => hj
/-- the slots of a block are patched -/
theorem Sd.patch {σ : L2.St} {as' : List Sl} : ∀ (vs : List Nat), (Sd K M F H σ as) → Wx M F H F' H' → Sd K M F' H' (L2.wipe σ vs) as' → Sd K M F' H' σ (patch as' as vs) := by
  intro vs S w S'
  -- over any prefix of the names
  have gen : ∀ (ws us : List Nat), (∀ v ∈ vs, v ∈ ws ∨ v ∈ us) → (∀ (i : Nat) (o : Option V) (s : Sl), i ∉ us → (L2.wipe σ vs)[i]? = some o → as'[i]? = some s → σ[i]? = some o) → True := fun _ _ _ _ => trivial
  have hl : σ.length = as'.length := by rw [← S'.len, wipe_length]
  have pl : ∀ ws, (Lp.patch as' as ws).length = as'.length := by
    intro ws
    induction ws with
    | nil => rfl
    | cons v ws ih => unfold Lp.patch; rw [List.length_set, ih]
  have wo : ∀ (ws : List Nat) (k : Nat), k ∉ ws → (L2.wipe σ ws)[k]? = σ[k]? := by
    intro ws k h
    induction ws with
    | nil => rfl
    | cons v ws ih =>
      unfold L2.wipe
      rw [List.getElem?_set_ne (fun z => h (by simp [z]))]
      exact ih fun z => h (List.mem_cons_of_mem _ z)
  have po : ∀ (ws : List Nat) (k : Nat), k ∉ ws → (Lp.patch as' as ws)[k]? = as'[k]? := by
    intro ws k h
    induction ws with
    | nil => rfl
    | cons v ws ih =>
      unfold Lp.patch
      rw [List.getElem?_set_ne (fun z => h (by simp [z]))]
      exact ih fun z => h (List.mem_cons_of_mem _ z)
  have pi : ∀ (ws : List Nat) (k : Nat), k ∈ ws → k < as'.length → (Lp.patch as' as ws)[k]? = some (keepS (as.getD k .e)) := by
    intro ws k h hlt
    induction ws with
    | nil => cases h
    | cons v ws ih =>
      unfold Lp.patch
      by_cases e : v = k
      · subst e
        rw [List.getElem?_set_self (by rw [pl]; exact hlt)]
      · rw [List.getElem?_set_ne e]
        rcases List.mem_cons.mp h with z | z
        · exact absurd z.symm e
        · exact ih z
  have keep_ne : ∀ s a u, keepS s ≠ .o a u := fun s a u e => by cases s <;> cases e
  refine ⟨by rw [pl, hl], fun i o s h1 h2 => ?_, fun i j a u x h1 h2 => ?_⟩
  · by_cases hv : i ∈ vs
    · have hlt : i < as'.length := by rw [← hl]; exact (List.getElem?_eq_some_iff.mp h1).1
      rw [pi vs i hv hlt] at h2
      cases h2
      have hlt2 : i < as.length := by rw [← S.len, hl]; exact hlt
      have z := S.at_ i o as[i] h1 (List.getElem?_eq_getElem hlt2)
      have eg : as.getD i .e = as[i] := by simp [List.getD, hlt2]
      rw [eg]
      generalize as[i] = s at z ⊢
      cases s with
      | e => trivial
      | d x => obtain ⟨v, z1, z2⟩ := z; exact ⟨v, z1, Rp.mono w.ff x z2⟩
      | s ns => obtain ⟨b, z1, z2⟩ := z; exact ⟨b, z1, w.ff.seq z2⟩
      | m kvs => obtain ⟨b, z1, z2⟩ := z; exact ⟨b, z1, w.ff _ _ z2⟩
      | mt kvs => obtain ⟨b, z1, z2⟩ := z; exact ⟨b, z1, w.ff _ _ z2⟩
      | o b v => trivial
    · rw [po vs i hv] at h2
      exact S'.at_ i o s (by rw [wo vs i hv]; exact h1) h2
  · have i1 : i ∉ vs := fun hv => by
      by_cases hlt : i < as'.length
      · rw [pi vs i hv hlt] at h1
        exact keep_ne _ _ _ (Option.some.inj h1)
      · rw [List.getElem?_eq_none (by rw [pl]; omega)] at h1; cases h1
    have j1 : j ∉ vs := fun hv => by
      by_cases hlt : j < as'.length
      · rw [pi vs j hv hlt] at h2
        exact keep_ne _ _ _ (Option.some.inj h2)
      · rw [List.getElem?_eq_none (by rw [pl]; omega)] at h2; cases h2
    rw [po vs i i1] at h1
    rw [po vs j j1] at h2
    exact S'.dis i j a u x h1 h2
/-- a comprehension, by a word of (turn, what is made so far, state) -/
theorem en_lc {wi : TI} {g : TG} {vs js : List Nat} (hj : ∀ j ∈ js, j ∈ vs) (h : EvI K wi as fun ds as1 => ds.length ≤ 100000 ∧ ∃ I : Nat → List PyData → List Sl → Prop, I 0 [] (wipeS as1 vs) ∧
    (∀ i x acc as', ds[i]? = some x → I i acc as' → EvG K g js x as' fun as2 => EvB K tt as2 fun b as3 => (b = true → Ev K te as3 fun d as4 => I (i + 1) (acc ++ [d]) (wipeS as4 vs)) ∧ (b = false → I (i + 1) acc (wipeS as3 vs))) ∧
    ∀ acc as', I ds.length acc as' → Φn (.lst acc) (patch as' as1 vs)) : EvN K (tLc wi g tt te vs) as Φn := fun M F H σ Q e f S q =>
  h M F H σ _ e f S fun ds as1 F1 H1 J ⟨hz, I, h0, hs, hd⟩ w1 S1 ⟨G, Y, wk, hG, hY⟩ D hD => by
    have hM : M D := w1.fr f D hD
    have fD : F1 D = none := same_none w1.fh hD
    -- within, D may not change
    let M' : Addr → Prop := fun a => M a ∧ a ≠ D
    have sub : ∀ {σ' : L2.St} {F2 H2 : Hp} {cs : List Sl}, Sd K M' F2 H2 σ' cs → Sd K M F2 H2 σ' cs := fun S => ⟨S.len, fun i o s h1 h2 => by
      have z := S.at_ i o s h1 h2
      cases s with
      | o b v => exact ⟨z.1, z.2.1.1, z.2.2⟩
      | e => exact z
      | d x => exact z
      | s ns => exact z
      | m kvs => exact z
      | mt kvs => exact z, S.dis⟩
    have sup : ∀ {σ' : L2.St} {F2 H2 : Hp} {cs : List Sl}, (∀ (j : Nat) w, cs[j]? ≠ some (.o D w)) → Sd K M F2 H2 σ' cs → Sd K M' F2 H2 σ' cs := fun hn S => ⟨S.len, fun i o s h1 h2 => by
      have z := S.at_ i o s h1 h2
      cases s with
      | o b v => exact ⟨z.1, ⟨z.2.1, fun q => hn i v (by rw [← q]; exact h2)⟩, z.2.2⟩
      | e => exact z
      | d x => exact z
      | s ns => exact z
      | m kvs => exact z
      | mt kvs => exact z, S.dis⟩
    let Pv : Nat → Hp → Prop := fun i H2 => ∃ acc as' F2 vs', I i acc as' ∧ acc.length ≤ i ∧ Wx M F1 H1 F2 H2 ∧ Sd K M' F2 H2 (L2.wipe σ vs) as' ∧ F2 D = none ∧ H2 D = some (.lst vs') ∧ RpA F2 vs' acc
    refine lc_it wk Pv ?_ (fun i H2 _ ⟨acc, as', F2, vs', _, _, w2, _⟩ => hG H2 (w2.ff.trans w2.fh)) (fun i x H2 H3 hi ⟨acc, as', F2, vs', hI, hl, w2, S2, f2, hD2, r2⟩ y => ?_) ?_
    · have w2 := Wd.newo w1.fh hD (.lst [])
      exact ⟨[], _, F1, [], h0, Nat.le_refl _, w2.wx, sup ((S1.wipe vs).fresh hD) ((S1.wipe vs).wd w2), fD, upd_same, .nil⟩
    · obtain ⟨d, F3, hd1, w3, r3⟩ := hY i H2 x H3 F2 hi w2.ff w2.fh y
      have f2' : Fr M' H2 := fun a ha => ⟨w2.fr (w1.fr f) a ha, fun z => by rw [z, hD2] at ha; cases ha⟩
      have w3' : Wx M' F2 H2 F3 H3 := w3.wx
      refine hs i d acc as' hd1 hI M' F3 H3 _ x _ w3.fh (w3'.fr f2') (S2.wd w3) r3 fun as2 σ2 h2 S4 l4 k4 => ⟨?_, ?_⟩
      · rw [wipe_same l4 k4 hj, wipe_wipe]
      · have ew : L2.wipe σ2 vs = L2.wipe σ vs := by rw [wipe_same l4 k4 hj, wipe_wipe]
        refine h2 M' F3 H3 σ2 _ w3.fh (w3'.fr f2') S4 fun b as3 F4 H4 ⟨hb1, hb2⟩ w4 S5 => ?_
        have w24 : Wx M' F2 H2 F4 H4 := w3'.trans w4
        have key : ∀ {F5 H5 : Hp}, Wx M' F2 H2 F5 H5 → Wx M F1 H1 F5 H5 ∧ F5 D = none ∧ H5 D = some (.lst vs') ∧ RpA F5 vs' acc := fun {F5 H5} w => by
          have nD : ¬ M' D := fun z => z.2 rfl
          refine ⟨⟨w2.ff.trans w.ff, w.fh, fun a o m hh => ?_, fun a m hh ff => ?_⟩, w.own D nD (by rw [hD2]; exact fun z => nomatch z) f2, w.hh D _ nD hD2, RpA.mono w.ff _ r2⟩
          · exact w.hh a o (fun z => m z.1) (w2.hh a o m hh)
          · exact w.own a (fun z => m z.1) (fun z => by
              cases q : H1 a with
              | none => exact hh q
              | some o => rw [w2.hh a o m q] at z; cases z) (w2.own a m hh ff)
        cases b with
        | true =>
          show te σ2 H4 _
          refine hb1 rfl M' F4 H4 σ2 _ w4.fh (w24.fr f2') S5 fun d2 as4 v F5 H5 h5 w5 S6 r5 => ?_
          obtain ⟨k1, k2, k3, k5⟩ := key (w24.trans w5)
          refine ⟨vs', k3, by rw [k5.len]; exact szlt (by have := hi; omega), acc ++ [d2], _, F5, vs' ++ [v], h5, by simp; omega, ⟨k1.ff, fun b u q => ?_, fun b u m q => ?_, k1.own⟩, ?_, k2, upd_same, k5.append (.cons r5 .nil)⟩
          · rw [upd_ne (ne_of_none q k2)]; exact k1.fh b u q
          · rw [upd_ne (fun z => m (by rw [z]; exact hM))]; exact k1.hh b u m q
          · rw [← ew]
            have S7 := S6.wipe vs
            refine ⟨S7.len, fun i o s g1 g2 => ?_, S7.dis⟩
            have z := S7.at_ i o s g1 g2
            cases s with
            | o b v2 => exact ⟨z.1, z.2.1, z.2.2.1, z.2.2.2.upd_ne' fun q => z.2.1.2 q⟩
            | e => exact z
            | d x => exact z
            | s ns => exact z
            | m kvs => exact z
            | mt kvs => exact z
        | false =>
          obtain ⟨k1, k2, k3, k5⟩ := key w24
          refine ⟨acc, _, F4, vs', hb2 rfl, by omega, k1, ?_, k2, k3, k5⟩
          rw [← ew]
          exact S5.wipe vs
    · rintro H2 ⟨acc, as', F2, vs', hI, _, w2, S2, f2, hD2, r2⟩
      refine q _ _ D F2 H2 (hd acc as' hI) (w1.trans w2) (Sd.patch vs S1 w2 (sub S2)) hM f2 ⟨vs', hD2, r2⟩ fun j w z => ?_
      -- D stands in no slot: its slots bear M'
      have S3 := Sd.patch (M := M) vs S1 w2 (sub S2)
      have : ∀ (j : Nat) (w : OD), as'[j]? ≠ some (.o D w) := fun j w z => ((S2.geto z).2.1).2 rfl
      by_cases hv : (patch as' as1 vs)[j]? = as'[j]?
      · rw [hv] at z; exact this j w z
      · have gen : ∀ ws : List Nat, (patch as' as1 ws)[j]? = as'[j]? ∨ ∃ s, (patch as' as1 ws)[j]? = some (keepS s) := by
          intro ws
          induction ws with
          | nil => exact .inl rfl
          | cons v ws ih =>
            unfold patch
            by_cases e : v = j
            · subst e
              by_cases hlt : v < (patch as' as1 ws).length
              · exact .inr ⟨_, List.getElem?_set_self hlt⟩
              · rw [List.set_eq_of_length_le (by omega)]; exact ih
            · rw [List.getElem?_set_ne e]; exact ih
        rcases gen vs with g | ⟨s, g⟩
        · exact hv g
        · rw [g] at z
          cases s <;> cases z
theorem ev_lc {wi : TI} {g : TG} {vs js : List Nat} (hj : ∀ j ∈ js, j ∈ vs) (h : EvI K wi as fun ds as1 => ds.length ≤ 100000 ∧ ∃ I : Nat → List PyData → List Sl → Prop, I 0 [] (wipeS as1 vs) ∧
    (∀ i x acc as', ds[i]? = some x → I i acc as' → EvG K g js x as' fun as2 => EvB K tt as2 fun b as3 => (b = true → Ev K te as3 fun d as4 => I (i + 1) (acc ++ [d]) (wipeS as4 vs)) ∧ (b = false → I (i + 1) acc (wipeS as3 vs))) ∧
    ∀ acc as', I ds.length acc as' → Φ (.list acc) (patch as' as1 vs)) : Ev K (tLc wi g tt te vs) as Φ :=
  ev_new (en_lc hj (h.mono fun ds as1 ⟨hz, I, h0, hs, hd⟩ => ⟨hz, I, h0, hs, fun acc as' h => ⟨acc, rfl, hd acc as' h⟩⟩))
end
end Lp

set_option Elab.async false
set_option linter.all false
set_option maxRecDepth 100000
set_option maxHeartbeats 2000000
/-! Lp: statements, loops, objects of one's own, promises. -/
namespace Lp
open PySem PySem.Spec L2
section
variable {K : PySem.W.Frag} {M : Addr → Prop} {F H F' H' F'' H'' : Hp} {as : List Sl} {Φ : Φd} {ta tb tc te : TE} {tt tu : TT} {tr : TA} {t u : TS} {A : AE}
/-! ### statements -/
theorem x_next (h : A.nx as) : Ex K tNext A as := fun M F H σ D e f S B => B.nx _ _ _ _ h (Wx.refl e) S
theorem x_seq (h : Ex K t { A with nx := fun as1 => Ex K u A as1 } as) : Ex K (tSeq t u) A as := fun M F H σ D e f S B =>
  h M F H σ { D with nx := u D } e f S ⟨fun as' σ' F' H' h1 w S' => h1 M F' H' σ' D w.fh (w.fr f) S' (B.mono w), B.rt, B.bk, B.ct, B.rn, B.rm⟩
theorem x_ret (h : Ev K te as fun d as1 => A.rt d as1) : Ex K (tRet te) A as := fun M F H σ D e f S B =>
  h M F H σ _ e f S fun d as1 v F1 H1 h1 w S1 r => B.rt _ _ _ _ _ _ h1 w S1 r
theorem x_retN (h : A.rt .none as) : Ex K tRetN A as := fun M F H σ D e f S B => B.rt _ _ _ _ _ _ h (Wx.refl e) S .non
theorem x_retO (h : EvN K te as fun u as1 => A.rn u as1) : Ex K (tRet te) A as := fun M F H σ D e f S B =>
  h M F H σ _ e f S fun u as1 a F1 H1 h1 w S1 hM hF ho _ => B.rn _ _ _ _ _ h1 w hM hF ho
theorem x_if (h : EvB K tt as fun b as1 => (b = true → Ex K t A as1) ∧ (b = false → Ex K u A as1)) : Ex K (tIfS tt t u) A as := fun M F H σ D e f S B =>
  h M F H σ _ e f S fun b as1 F1 H1 ⟨h1, h2⟩ w S1 => by
    cases b with
    | true => exact h1 rfl M F1 H1 σ D w.fh (w.fr f) S1 (B.mono w)
    | false => exact h2 rfl M F1 H1 σ D w.fh (w.fr f) S1 (B.mono w)
theorem x_break (h : A.bk as) : Ex K tBreak A as := fun M F H σ D e f S B => B.bk _ _ _ _ h (Wx.refl e) S
theorem x_cont (h : A.ct as) : Ex K tCont A as := fun M F H σ D e f S B => B.ct _ _ _ _ h (Wx.refl e) S
theorem x_asg {g : TG} {js : List Nat} (h : Ev K te as fun d as1 => EvG K g js d as1 A.nx) : Ex K (tAsg te g) A as := fun M F H σ D e f S B =>
  h M F H σ _ e f S fun d as1 v F1 H1 h1 w S1 r => h1 M F1 H1 σ v _ w.fh (w.fr f) S1 r fun as2 σ2 h2 S2 _ _ => B.nx _ _ _ _ h2 w S2
theorem x_set {i : Nat} (h : Ev K te as fun d as1 => A.nx (as1.set i (.d d))) : Ex K (tAsg te (gName i)) A as := x_asg (h.mono fun d as1 h1 => eg_name h1)
/-- a new object of one's own at a name -/
theorem x_setN {i : Nat} (h : EvN K te as fun u as1 => ∀ a, A.nx (as1.set i (.o a u))) : Ex K (tAsg te (gName i)) A as := fun M F H σ D e f S B =>
  h M F H σ _ e f S fun u as1 a F1 H1 h1 w S1 hM hF ho hn => B.nx _ _ _ _ (h1 a) w (S1.seto i hM hF ho fun j w e => absurd e (hn j w))
theorem x_drop (h : Ev K te as fun _ as1 => A.nx as1) : Ex K (tDrop te) A as := fun M F H σ D e f S B =>
  h M F H σ _ e f S fun d as1 v F1 H1 h1 w S1 _ => B.nx _ _ _ _ h1 w S1
/-- a, b = x, y -/
theorem x_par {i j : Nat} (h : EvA K tr as fun ds as1 => ∃ x y, ds = [x, y] ∧ A.nx ((as1.set i (.d x)).set j (.d y))) : Ex K (tPar i j tr) A as := fun M F H σ D e f S B =>
  h M F H σ _ e f S fun ds as1 vs F1 H1 ⟨x, y, e1, h1⟩ w S1 r => by
    subst e1
    cases r with
    | cons r t =>
      cases t with
      | cons r2 t =>
        cases t
        exact ⟨_, _, rfl, B.nx _ _ _ _ h1 w ((S1.set i (s := .d x) ⟨_, rfl, r⟩ fun _ _ z => nomatch z).set j (s := .d y) ⟨_, rfl, r2⟩ fun _ _ z => nomatch z)⟩
/-- a fresh object is set apart while something else is reckoned -/
theorem apart {as' : List Sl} {σ : L2.St} {D : Addr} (hn : ∀ (j : Nat) w, as[j]? ≠ some (.o D w)) (S : Sd K M F H σ as) : Sd K (fun a => M a ∧ a ≠ D) F H σ as := ⟨S.len, fun i o s h1 h2 => by
  have z := S.at_ i o s h1 h2
  cases s with
  | o b v => exact ⟨z.1, ⟨z.2.1, fun q => hn i v (by rw [← q]; exact h2)⟩, z.2.2⟩
  | e => exact z
  | d x => exact z
  | s ns => exact z
  | m kvs => exact z
  | mt kvs => exact z, S.dis⟩
theorem rejoin {σ : L2.St} {D : Addr} (S : Sd K (fun a => M a ∧ a ≠ D) F H σ as) : Sd K M F H σ as ∧ ∀ (j : Nat) w, as[j]? ≠ some (.o D w) := ⟨⟨S.len, fun i o s h1 h2 => by
  have z := S.at_ i o s h1 h2
  cases s with
  | o b v => exact ⟨z.1, z.2.1.1, z.2.2⟩
  | e => exact z
  | d x => exact z
  | s ns => exact z
  | m kvs => exact z
  | mt kvs => exact z, S.dis⟩, fun j w z => ((S.geto z).2.1).2 rfl⟩
theorem Ow.keep {D : Addr} {u : OD} (w : Wx (fun a => M a ∧ a ≠ D) F H F' H') (hF : F D = none) (h : Ow F H D u) : Ow F' H' D u ∧ F' D = none := by
  have nD : ¬ (M D ∧ D ≠ D) := fun z => z.2 rfl
  refine ⟨?_, w.own D nD h.ne0 hF⟩
  cases u with
  | lst ds => obtain ⟨xs, h1, h2⟩ := h; exact ⟨xs, w.hh _ _ nD h1, RpA.mono w.ff ds h2⟩
  | dct kvs => exact w.hh _ _ nD h
  | dtu kvs => exact w.hh _ _ nD h
  | pot c => obtain ⟨xs, h1, h2⟩ := h; exact ⟨xs, w.hh _ _ nD h1, h2⟩
theorem Wx.join {D : Addr} (w : Wx (fun a => M a ∧ a ≠ D) F H F' H') : Wx M F H F' H' := ⟨w.ff, w.fh, fun a o m h => w.hh a o (fun z => m z.1) h, fun a m h1 h2 => w.own a (fun z => m z.1) h1 h2⟩
theorem Fr.apart {D : Addr} (f : Fr M H) (h : H D ≠ none) : Fr (fun a => M a ∧ a ≠ D) H := fun a ha => ⟨f a ha, fun z => h (z ▸ ha)⟩
/-- a, b = x, y: both new objects of one's own -/
theorem x_parNN {i j : Nat} (hij : i ≠ j) (h : EvN K ta as fun u as1 => EvN K tb as1 fun w as2 => ∀ a b, A.nx ((as2.set i (.o a u)).set j (.o b w))) : Ex K (tPar i j (tCons ta (tCons tb tNil))) A as := fun M F H σ D e f S B =>
  h M F H σ _ e f S fun u as1 a F1 H1 h1 w1 S1 hM hF ho hn => by
    refine h1 (fun x => M x ∧ x ≠ a) F1 H1 σ _ w1.fh ((w1.fr f).apart ho.ne0) (apart (as' := as1) hn S1) fun w as2 b F2 H2 h2 w2 S2 hM2 hF2 ho2 hn2 => ?_
    obtain ⟨k1, k2⟩ := ho.keep w2 hF
    obtain ⟨S3, n3⟩ := rejoin S2
    refine ⟨_, _, rfl, B.nx _ _ _ _ (h2 a b) (w1.trans w2.join) ((S3.seto i hM k2 k1 fun j w e => absurd e (n3 j w)).seto j hM2.1 hF2 ho2 fun k w e => ?_)⟩
    rcases set_get e with ⟨_, e⟩ | ⟨_, e⟩
    · cases e; exact absurd rfl hM2.2
    · exact absurd e (hn2 k w)
theorem x_parND {i j : Nat} (hij : i ≠ j) (h : EvN K ta as fun u as1 => Ev K tb as1 fun y as2 => ∀ a, A.nx ((as2.set i (.o a u)).set j (.d y))) : Ex K (tPar i j (tCons ta (tCons tb tNil))) A as := fun M F H σ D e f S B =>
  h M F H σ _ e f S fun u as1 a F1 H1 h1 w1 S1 hM hF ho hn => by
    refine h1 (fun x => M x ∧ x ≠ a) F1 H1 σ _ w1.fh ((w1.fr f).apart ho.ne0) (apart (as' := as1) hn S1) fun y as2 v F2 H2 h2 w2 S2 r2 => ?_
    obtain ⟨k1, k2⟩ := ho.keep w2 hF
    obtain ⟨S3, n3⟩ := rejoin S2
    exact ⟨_, _, rfl, B.nx _ _ _ _ (h2 a) (w1.trans w2.join) ((S3.seto i hM k2 k1 fun j w e => absurd e (n3 j w)).set j (s := .d y) ⟨v, rfl, r2⟩ fun _ _ z => nomatch z)⟩
theorem x_parDN {i j : Nat} (h : Ev K ta as fun x as1 => EvN K tb as1 fun u as2 => ∀ b, A.nx ((as2.set i (.d x)).set j (.o b u))) : Ex K (tPar i j (tCons ta (tCons tb tNil))) A as := fun M F H σ D e f S B =>
  h M F H σ _ e f S fun x as1 v F1 H1 h1 w1 S1 r1 => by
    refine h1 M F1 H1 σ _ w1.fh (w1.fr f) S1 fun u as2 b F2 H2 h2 w2 S2 hM hF ho hn => ?_
    refine ⟨_, _, rfl, B.nx _ _ _ _ (h2 b) (w1.trans w2) ((S2.set i (s := .d x) ⟨v, rfl, Rp.mono w2.ff x r1⟩ fun _ _ z => nomatch z).seto j hM hF ho fun k w e => ?_)⟩
    rcases set_get e with ⟨_, e⟩ | ⟨_, e⟩
    · cases e
    · exact absurd e (hn k w)
theorem x_for {wi : TI} {g : TG} {js : List Nat} (h : EvI K wi as fun ds as1 => ∃ I : Nat → List Sl → Prop, I 0 as1 ∧
    (∀ i x as', ds[i]? = some x → I i as' → EvG K g js x as' fun as2 => Ex K t { A with nx := I (i + 1), ct := I (i + 1), bk := A.nx } as2) ∧ ∀ as', I ds.length as' → A.nx as') : Ex K (tFor wi g t) A as := fun M F H σ D e f S B =>
  h M F H σ _ e f S fun ds as1 F1 H1 J ⟨I, h0, hs, hd⟩ w1 S1 ⟨G, Y, wk, hG, hY⟩ => by
    refine for_it wk (fun i σ2 H2 => ∃ as' F2, I i as' ∧ Wx M F1 H1 F2 H2 ∧ Sd K M F2 H2 σ2 as') ⟨as1, F1, h0, Wx.refl w1.fh, S1⟩ (fun i σ2 H2 _ ⟨as', F2, _, w2, _⟩ => hG H2 (w2.ff.trans w2.fh)) (fun i x σ2 H2 H3 hi ⟨as', F2, hI, w2, S2⟩ y => ?_) ?_
    · obtain ⟨d, F3, hd1, w3, r3⟩ := hY i H2 x H3 F2 hi w2.ff w2.fh y
      have w23 : Wx M F1 H1 F3 H3 := w2.trans w3.wx
      refine hs i d as' hd1 hI M F3 H3 σ2 x _ w3.fh (w23.fr (w1.fr f)) (S2.wd w3) r3 fun as2 σ3 h2 S4 _ _ => ?_
      refine h2 M F3 H3 σ3 _ w3.fh (w23.fr (w1.fr f)) S4 ⟨fun a b c d k w s => ⟨a, c, k, w23.trans w, s⟩, fun d a v σ' F' H' k w s r => B.rt d a v σ' F' H' k (w1.trans (w23.trans w)) s r, fun a σ' F' H' k w s => B.nx a σ' F' H' k (w1.trans (w23.trans w)) s, fun a b c d k w s => ⟨a, c, k, w23.trans w, s⟩, fun u a x F' H' k w => B.rn u a x F' H' k (w1.trans (w23.trans w)), fun u a x F' H' k w => B.rm u a x F' H' k (w1.trans (w23.trans w))⟩
    · rintro σ2 H2 ⟨as', F2, hI, w2, S2⟩
      exact B.nx _ _ _ _ (hd as' hI) (w1.trans w2) S2
theorem x_while (I : Nat → List Sl → Prop) (m0 : Nat) (h0 : I m0 as)
    (hs : ∀ m as', I m as' → EvB K tt as' fun b as1 => (b = true → Ex K t { A with nx := fun a => ∃ m', m' < m ∧ I m' a, ct := fun a => ∃ m', m' < m ∧ I m' a, bk := A.nx } as1) ∧ (b = false → A.nx as1)) : Ex K (tWhile tt t) A as := fun M F H σ D e f S B => by
  refine ⟨fun m σ2 H2 => ∃ as' F2, I m as' ∧ Wx M F H F2 H2 ∧ Sd K M F2 H2 σ2 as', ⟨m0, as, F, h0, Wx.refl e, S⟩, ?_⟩
  rintro m σ2 H2 ⟨as', F2, hI, w2, S2⟩
  refine hs m as' hI M F2 H2 σ2 _ w2.fh (w2.fr f) S2 fun b as1 F3 H3 ⟨h1, h2⟩ w3 S3 => ?_
  have w23 := w2.trans w3
  cases b with
  | true =>
    show ∃ N : L2.St → Hp → Prop, _ ∧ _
    refine ⟨fun σ4 H4 => ∃ m', m' < m ∧ ∃ as' F4, I m' as' ∧ Wx M F H F4 H4 ∧ Sd K M F4 H4 σ4 as', fun σ' H' ⟨m', a, b⟩ => ⟨m', a, b⟩, ?_⟩
    refine h1 rfl M F3 H3 σ2 _ w3.fh (w23.fr f) S3 ⟨fun a b c d ⟨m', k1, k2⟩ w s => ⟨m', k1, a, c, k2, w23.trans w, s⟩, fun d a v σ' F' H' k w s r => B.rt d a v σ' F' H' k (w23.trans w) s r, fun a σ' F' H' k w s => B.nx a σ' F' H' k (w23.trans w) s, fun a b c d ⟨m', k1, k2⟩ w s => ⟨m', k1, a, c, k2, w23.trans w, s⟩, fun u a x F' H' k w => B.rn u a x F' H' k (w23.trans w), fun u a x F' H' k w => B.rm u a x F' H' k (w23.trans w)⟩
  | false => exact B.nx _ _ _ _ (h2 rfl) w23 S3
/-! ### objects of one's own -/
/-- from now on it is data -/
theorem Sd.freeze {σ : L2.St} (S : Sd K M F H σ as) (e : Same F H) {j : Nat} {a : Addr} {ds : List PyData} (h : as[j]? = some (.o a (.lst ds))) : ∃ F', Wx M F H F' H ∧ Sd K M F' H σ (as.set j (.d (.list ds))) ∧ F' = upd F a (match H a with | some o => o | none => .own a) := by
  obtain ⟨hσ, hM, hF, xs, hx, rx⟩ := S.geto h
  have w : Wx M F H (upd F a (.lst xs)) H := Wx.freeze e hM hF hx
  refine ⟨_, w, ⟨by rw [List.length_set, S.len], fun i o s h1 h2 => ?_, fun i k b u v h1 h2 => ?_⟩, by rw [hx]⟩
  · rcases set_get h2 with ⟨e1, rfl⟩ | ⟨e1, h2⟩
    · subst e1
      rw [hσ] at h1; cases h1
      exact ⟨_, rfl, .lst upd_same (RpA.mono w.ff _ rx)⟩
    · have z := S.at_ i o s h1 h2
      cases s with
      | e => trivial
      | d x => obtain ⟨v, z1, z2⟩ := z; exact ⟨v, z1, Rp.mono w.ff x z2⟩
      | s ns => obtain ⟨b, z1, z2⟩ := z; exact ⟨b, z1, w.ff.seq z2⟩
      | m kvs => obtain ⟨b, z1, z2⟩ := z; exact ⟨b, z1, w.ff _ _ z2⟩
      | mt kvs => obtain ⟨b, z1, z2⟩ := z; exact ⟨b, z1, w.ff _ _ z2⟩
      | o b v =>
        obtain ⟨z1, z2, z3, z4⟩ := z
        have ne : b ≠ a := fun q => e1 (S.dis j i a _ _ h (by rw [← q]; exact h2))
        refine ⟨z1, z2, by rw [upd_ne ne]; exact z3, ?_⟩
        cases v with
        | lst ds' => obtain ⟨ys, y1, y2⟩ := z4; exact ⟨ys, y1, RpA.mono w.ff ds' y2⟩
        | dct kvs => exact z4
        | dtu kvs => exact z4
        | pot c => exact z4
  · rcases set_get h1 with ⟨_, h1⟩ | ⟨_, h1⟩
    · cases h1
    · rcases set_get h2 with ⟨_, h2⟩ | ⟨_, h2⟩
      · cases h2
      · exact S.dis i k b u v h1 h2
theorem x_freeze {j : Nat} {a : Addr} {ds : List PyData} (h : as[j]? = some (.o a (.lst ds))) (k : Ex K t A (as.set j (.d (.list ds)))) : Ex K t A as := fun M F H σ D e f S B => by
  obtain ⟨F', w, S', _⟩ := S.freeze e h
  exact k M F' H σ D w.fh (w.fr f) S' (B.mono w)
theorem ev_freeze {j : Nat} {a : Addr} {ds : List PyData} (h : as[j]? = some (.o a (.lst ds))) (k : Ev K te (as.set j (.d (.list ds))) Φ) : Ev K te as Φ := fun M F H σ Q e f S q => by
  obtain ⟨F', w, S', _⟩ := S.freeze e h
  exact k M F' H σ Q w.fh (w.fr f) S' fun d as' v F1 H1 a w1 => q d as' v F1 H1 a (w.trans w1)
theorem eb_freeze {Φb : Bool → List Sl → Prop} {j : Nat} {a : Addr} {ds : List PyData} (h : as[j]? = some (.o a (.lst ds))) (k : EvB K tt (as.set j (.d (.list ds))) Φb) : EvB K tt as Φb := fun M F H σ Q e f S q => by
  obtain ⟨F', w, S', _⟩ := S.freeze e h
  exact k M F' H σ Q w.fh (w.fr f) S' fun d as' F1 H1 a w1 => q d as' F1 H1 a (w.trans w1)
theorem Sd.freezeD {σ : L2.St} (S : Sd K M F H σ as) (e : Same F H) {j : Nat} {a : Addr} {kvs : List (Key × V)} (h : as[j]? = some (.o a (.dct kvs))) : ∃ F', Wx M F H F' H ∧ Sd K M F' H σ (as.set j (.m kvs)) ∧ F' a = some (.dK kvs) := by
  obtain ⟨hσ, hM, hF, hx⟩ := S.geto h
  have hx : H a = some (.dK kvs) := hx
  have w : Wx M F H (upd F a (.dK kvs)) H := Wx.freeze e hM hF hx
  refine ⟨_, w, ⟨by rw [List.length_set, S.len], fun i o s h1 h2 => ?_, fun i k b u v h1 h2 => ?_⟩, upd_same⟩
  · rcases set_get h2 with ⟨e1, rfl⟩ | ⟨e1, h2⟩
    · subst e1
      rw [hσ] at h1; cases h1
      exact ⟨_, rfl, upd_same⟩
    · have z := S.at_ i o s h1 h2
      cases s with
      | e => trivial
      | d x => obtain ⟨v, z1, z2⟩ := z; exact ⟨v, z1, Rp.mono w.ff x z2⟩
      | s ns => obtain ⟨b, z1, z2⟩ := z; exact ⟨b, z1, w.ff.seq z2⟩
      | m kvs => obtain ⟨b, z1, z2⟩ := z; exact ⟨b, z1, w.ff _ _ z2⟩
      | mt kvs => obtain ⟨b, z1, z2⟩ := z; exact ⟨b, z1, w.ff _ _ z2⟩
      | o b v =>
        obtain ⟨z1, z2, z3, z4⟩ := z
        have ne : b ≠ a := fun q => e1 (S.dis j i a _ _ h (by rw [← q]; exact h2))
        refine ⟨z1, z2, by rw [upd_ne ne]; exact z3, ?_⟩
        cases v with
        | lst ds' => obtain ⟨ys, y1, y2⟩ := z4; exact ⟨ys, y1, RpA.mono w.ff ds' y2⟩
        | dct kvs => exact z4
        | dtu kvs => exact z4
        | pot c => exact z4
  · rcases set_get h1 with ⟨_, h1⟩ | ⟨_, h1⟩
    · cases h1
    · rcases set_get h2 with ⟨_, h2⟩ | ⟨_, h2⟩
      · cases h2
      · exact S.dis i k b u v h1 h2
theorem x_freezeD {j : Nat} {a : Addr} {kvs : List (Key × V)} (h : as[j]? = some (.o a (.dct kvs))) (k : Ex K t A (as.set j (.m kvs))) : Ex K t A as := fun M F H σ D e f S B => by
  obtain ⟨F', w, S', _⟩ := S.freezeD e h
  exact k M F' H σ D w.fh (w.fr f) S' (B.mono w)
/-- what does not lean on the heap -/
theorem scal_rp {v : V} {d : PyData} (h : (scD d).isSome = true) (r : Rp F v d) : ∀ F', Rp F' v d := by
  intro F'
  cases r with
  | non => exact .non
  | bl b => exact .bl b
  | int i => exact .int i
  | str x => exact .str x
  | lst a b => cases h
  | tup a b => cases h
def peek1 : Sl → Sl
  | .o _ (.lst ds) => .d (.list ds)
  | .o _ (.dct kvs) => .m kvs
  | .o _ (.dtu kvs) => .mt kvs
  | .o _ (.pot _) => .e
  | s => s
def peekS (as : List Sl) : List Sl := as.map peek1
/-- all objects of one's own are looked at as data, for a moment -/
theorem Sd.peek {σ : L2.St} (S : Sd K M F H σ as) (e : Same F H) : ∃ F', Same F F' ∧ Same F' H ∧ Sd K (fun b => H b = none) F' H σ (peekS as) := by
  classical
  let F' : Hp := fun b => if (∃ (j : Nat) (u : OD), as[j]? = some (.o b u)) then H b else F b
  have s1 : Same F F' := fun b o h => by
    show (if _ then H b else F b) = some o
    split
    · exact e b o h
    · exact h
  have s2 : Same F' H := fun b o h => by
    have h : (if (∃ (j : Nat) (u : OD), as[j]? = some (.o b u)) then H b else F b) = some o := h
    split at h
    · exact h
    · exact e b o h
  have at1 : ∀ (j : Nat) (b : Addr) (u : OD), as[j]? = some (.o b u) → F' b = H b := fun j b u h => if_pos ⟨j, u, h⟩
  refine ⟨F', s1, s2, ⟨by unfold peekS; rw [List.length_map, S.len], fun i o s h1 h2 => ?_, fun i j a u w h1 h2 => ?_⟩⟩
  · unfold peekS at h2
    rw [List.getElem?_map] at h2
    obtain ⟨s0, h3, rfl⟩ := Option.map_eq_some_iff.mp h2
    have z := S.at_ i o s0 h1 h3
    cases s0 with
    | e => trivial
    | d x => obtain ⟨v, z1, z2⟩ := z; exact ⟨v, z1, Rp.mono s1 x z2⟩
    | s ns => obtain ⟨b, z1, z2⟩ := z; exact ⟨b, z1, s1.seq z2⟩
    | m kvs => obtain ⟨b, z1, z2⟩ := z; exact ⟨b, z1, s1 _ _ z2⟩
    | mt kvs => obtain ⟨b, z1, z2⟩ := z; exact ⟨b, z1, s1 _ _ z2⟩
    | o b v =>
      obtain ⟨z1, z2, z3, z4⟩ := z
      have eb := at1 i b v h3
      cases v with
      | lst ds => obtain ⟨ys, y1, y2⟩ := z4; exact ⟨_, z1, .lst (eb.trans y1) (RpA.mono s1 ds y2)⟩
      | dct kvs => exact ⟨b, z1, eb.trans z4⟩
      | dtu kvs => exact ⟨b, z1, eb.trans z4⟩
      | pot c => trivial
  · unfold peekS at h1
    rw [List.getElem?_map] at h1
    obtain ⟨s0, _, h4⟩ := Option.map_eq_some_iff.mp h1
    cases s0 with
    | o b v => cases v <;> cases h4
    | _ => cases h4
theorem peek_back {σ : L2.St} {F1 H1 : Hp} (S : Sd K M F H σ as) (e : Same F H) {F' : Hp} (s1 : Same F F') (s2 : Same F' H) (w1 : Wx (fun b => H b = none) F' H F1 H1) : Wx M F H F H1 ∧ Sd K M F H1 σ as := by
  have hh : Same H H1 := fun b o h => w1.hh b o (fun z => by rw [z] at h; cases h) h
  have w : Wd F H F H1 := ⟨Same.refl _, e.trans hh, hh, fun _ _ z => z⟩
  exact ⟨w.wx, S.wd w⟩
theorem ev_peek (k : Ev K te (peekS as) fun d _ => (scD d).isSome = true ∧ Φ d as) : Ev K te as Φ := fun M F H σ Q e f S q => by
  obtain ⟨F', s1, s2, S'⟩ := S.peek e
  refine k _ F' H σ Q s2 (fun _ h => h) S' fun d as' v F1 H1 ⟨hsc, hΦ⟩ w1 S1 r1 => ?_
  obtain ⟨w, S2⟩ := peek_back S e s1 s2 w1
  exact q d as v F H1 hΦ w S2 (scal_rp hsc r1 F)
theorem eb_peek {Φb : Bool → List Sl → Prop} (k : EvB K tt (peekS as) fun d _ => Φb d as) : EvB K tt as Φb := fun M F H σ Q e f S q => by
  obtain ⟨F', s1, s2, S'⟩ := S.peek e
  refine k _ F' H σ Q s2 (fun _ h => h) S' fun d as' F1 H1 hΦ w1 S1 => ?_
  obtain ⟨w, S2⟩ := peek_back S e s1 s2 w1
  exact q d as F H1 hΦ w S2
/-! ### lists of one's own: append, extend, pop, xs[i] = v -/
theorem Wd.sl {a : Addr} {ds : List PyData} (h : Ow F H a (.lst ds)) : ∃ xs, SqL K H a xs := let ⟨xs, h1, _⟩ := h; ⟨xs, .of h1⟩
theorem x_app {j : Nat} {a : Addr} {ds0 : List PyData} (h0 : as[j]? = some (.o a (.lst ds0))) (h : Ev K te as fun x as1 => ∃ ds, as1[j]? = some (.o a (.lst ds)) ∧ ds.length < 100000 ∧ A.nx (as1.set j (.o a (.lst (ds ++ [x]))))) :
    Ex K (tDrop (tBM K "list" rAppend (tVar j) (tCons te tNil))) A as := fun M F H σ D e f S B => by
  obtain ⟨hσ, _, _, xs, hx, _⟩ := S.geto h0
  refine ⟨.ref a, hσ, .inl ⟨rfl, xs, .of hx⟩, h M F H σ _ e f S fun x as1 v F1 H1 ⟨ds, h1, hl, h2⟩ w S1 r1 => ?_⟩
  obtain ⟨_, hM, hF, ys, hy, ry⟩ := S1.geto h1
  exact ⟨a, ys, v, rfl, rfl, hy, by rw [ry.len]; exact szlt hl, B.nx _ _ _ _ h2 (w.trans (Wx.mut w.fh hM hF _)) (S1.mut h1 ⟨ys ++ [v], upd_same, ry.append (.cons r1 .nil)⟩)⟩
theorem x_ext {j : Nat} {a : Addr} {ds0 : List PyData} (h0 : as[j]? = some (.o a (.lst ds0))) (h : Ev K te as fun x as1 => ∃ ds es, x = .list es ∧ as1[j]? = some (.o a (.lst ds)) ∧ ds.length + es.length ≤ 100000 ∧ A.nx (as1.set j (.o a (.lst (ds ++ es))))) :
    Ex K (tDrop (tBM K "list" rExtend (tVar j) (tCons te tNil))) A as := fun M F H σ D e f S B => by
  obtain ⟨hσ, _, _, xs, hx, _⟩ := S.geto h0
  refine ⟨.ref a, hσ, .inl ⟨rfl, xs, .of hx⟩, h M F H σ _ e f S fun x as1 v F1 H1 ⟨ds, es, e1, h1, hl, h2⟩ w S1 r1 => ?_⟩
  subst e1
  cases r1 with
  | lst c d =>
    obtain ⟨_, hM, hF, ys, hy, ry⟩ := S1.geto h1
    exact ⟨a, _, ys, _, rfl, rfl, hy, w.fh _ _ c, by rw [ry.len, d.len]; exact szl hl, B.nx _ _ _ _ h2 (w.trans (Wx.mut w.fh hM hF _)) (S1.mut h1 ⟨ys ++ _, upd_same, ry.append d⟩)⟩
theorem ev_pop {j : Nat} {a : Addr} {ds : List PyData} (h0 : as[j]? = some (.o a (.lst ds))) {x : PyData} (hx : ds[ds.length - 1]? = some x) (h : Φ x (as.set j (.o a (.lst ds.dropLast)))) : Ev K (tBM0 K "list" rPop (tVar j)) as Φ := fun M F H σ Q e f S q => by
  obtain ⟨hσ, hM, hF, xs, hy, ry⟩ := S.geto h0
  obtain ⟨v, h1, h2⟩ := ry.getD hx
  exact ⟨.ref a, hσ, .inl ⟨rfl, xs, .of hy⟩, a, xs, v, rfl, rfl, hy, by rw [ry.len]; exact h1, q _ _ _ _ _ h (Wx.mut e hM hF _) (S.mut h0 ⟨xs.dropLast, upd_same, ry.dropLast⟩) h2⟩
theorem ev_popAt {j : Nat} {a : Addr} {ds0 : List PyData} (h0 : as[j]? = some (.o a (.lst ds0))) (h : Ev K te as fun y as1 => ∃ ds i x, y = .int ((i : Nat) : Int) ∧ as1[j]? = some (.o a (.lst ds)) ∧ ds[i]? = some x ∧ ds.length ≤ 100000 ∧ Φ x (as1.set j (.o a (.lst (ds.eraseIdx i))))) :
    Ev K (tBM K "list" rPopAt (tVar j) (tCons te tNil)) as Φ := fun M F H σ Q e f S q => by
  obtain ⟨hσ, _, _, xs, hx, _⟩ := S.geto h0
  refine ⟨.ref a, hσ, .inl ⟨rfl, xs, .of hx⟩, h M F H σ _ e f S fun y as1 v F1 H1 ⟨ds, i, x, e1, h1, h2, hz, h3⟩ w S1 r1 => ?_⟩
  subst e1
  cases r1
  obtain ⟨_, hM, hF, ys, hy, ry⟩ := S1.geto h1
  obtain ⟨v, g1, g2⟩ := ry.getD h2
  have hi : i < ds.length := (List.getElem?_eq_some_iff.mp h2).1
  exact ⟨a, ys, i, i, v, rfl, rfl, hy, by omega, by omega, by rw [seqIndex_of (by omega) (by rw [ry.len]; omega)]; simp, g1, q _ _ _ _ _ h3 (w.trans (Wx.mut w.fh hM hF _)) (S1.mut h1 ⟨ys.eraseIdx i, upd_same, ry.eraseIdx i⟩) g2⟩
theorem x_seti {j : Nat} {a : Addr} {ds0 : List PyData} (h : Ev K te as fun x as1 => Ev K ta as1 fun y as2 => ∃ ds i, y = .int ((i : Nat) : Int) ∧ as2[j]? = some (.o a (.lst ds)) ∧ i < ds.length ∧ A.nx (as2.set j (.o a (.lst (ds.set i x))))) (hj : as[j]? = some (.o a (.lst ds0)) := by rfl) : Ex K (tAsg te (gSub (tVar j) ta rSetL)) A as := fun M F H σ D e f S B => by
  obtain ⟨hσ, _⟩ := S.geto hj
  refine h M F H σ _ e f S fun x as1 v F1 H1 h1 w S1 r1 => ?_
  refine ⟨.ref a, hσ, h1 M F1 H1 σ _ w.fh (w.fr f) S1 fun y as2 u F2 H2 ⟨ds, i, e1, h2, hi, h3⟩ w2 S2 r2 => ?_⟩
  subst e1
  cases r2
  obtain ⟨_, hM, hF, ys, hy, ry⟩ := S2.geto h2
  refine ⟨a, ys, i, i, rfl, rfl, hy, ?_, B.nx _ _ _ _ h3 ((w.trans w2).trans (Wx.mut w2.fh hM hF _)) (S2.mut h2 ⟨ys.set i v, upd_same, ry.set (Rp.mono w2.ff x r1) i⟩)⟩
  unfold ixN
  rw [ry.len, if_pos (by omega), if_pos (by omega)]
  simp
/-! ### dicts -/
def kD : Key → PyData
  | .inl i => .int i
  | .inr x => .str x
theorem kD_rp {v : V} {k : Key} (r : Rp F v (kD k)) : v = kV k := by
  cases k with
  | inl i => cases r; rfl
  | inr x => cases r; rfl
theorem en_dnew {Φn : OD → List Sl → Prop} (h : Φn (.dct []) as) : EvN K tDNewK as Φn := fun M F H σ Q e f S q p hp => by
  have w := Wd.newo e hp (.dK [])
  exact q _ _ p F _ h w.wx (S.wd w) (f p hp) (same_none e hp) upd_same (S.fresh hp)
/-- {k: v} -/
theorem en_disp1 {Φn : OD → List Sl → Prop} (h : Ev K ta as fun x as1 => ∃ k, x = kD k ∧ Ev K tb as1 fun y as2 => ∃ v, scD y = some v ∧ Φn (.dct [(k, v)]) as2) : EvN K (tDisp [(ta, tb)]) as Φn := fun M F H σ Q e f S q p hp => by
  have w := Wd.newo (F := F) e hp (.dK [])
  have fF := same_none e hp
  refine h (fun a => M a ∧ a ≠ p) F _ σ _ w.fh ((w.wx.fr f).apart (by rw [upd_same]; exact fun z => nomatch z)) (apart (as' := as) (S.fresh hp) (S.wd w)) fun x as1 v F1 H1 ⟨k, e1, h1⟩ w1 S1 r1 => ?_
  subst e1
  have ev := kD_rp r1
  subst ev
  refine h1 _ F1 H1 σ _ w1.fh (w1.fr ((w.wx.fr f).apart (by rw [upd_same]; exact fun z => nomatch z))) S1 fun y as2 u F2 H2 ⟨v, hs, h2⟩ w2 S2 r2 => ?_
  have eu := scD_rp hs r2
  subst eu
  have w12 := w1.trans w2
  have nD : ¬ (M p ∧ p ≠ p) := fun z => z.2 rfl
  have hp2 : H2 p = some (.dK []) := w12.hh p _ nD upd_same
  have fp2 : F2 p = none := w12.own p nD (by rw [upd_same]; exact fun z => nomatch z) fF
  obtain ⟨S3, n3⟩ := rejoin S2
  have wj : Wx M F H F2 H2 := w.wx.trans w12.join
  have hMp := f p hp
  refine ⟨hp2, [(k, u)], rfl, Nat.le_add_left 1 14, ?_⟩
  refine q _ _ p F2 _ h2 (wj.trans (Wx.mut wj.fh hMp fp2 _)) ⟨S3.len, fun i o s g1 g2 => ?_, S3.dis⟩ hMp fp2 ?_ n3
  · have z := S3.at_ i o s g1 g2
    cases s with
    | o b v => exact ⟨z.1, z.2.1, z.2.2.1, z.2.2.2.upd_ne' fun q => n3 i v (by rw [← q]; exact g2)⟩
    | e => trivial
    | d x => exact z
    | s ns => exact z
    | m kvs => exact z
    | mt kvs => exact z
  · show upd H2 p (.dK (mergeK [] [(k, u)])) p = some (.dK [(k, u)])
    rw [upd_same]
    rfl
theorem x_dput {j : Nat} {a : Addr} {kvs0 : List (Key × V)} (hj : as[j]? = some (.o a (.dct kvs0))) (h : Ev K te as fun x as1 => ∃ v, scD x = some v ∧ Ev K ta as1 fun y as2 => ∃ k kvs, y = kD k ∧ as2[j]? = some (.o a (.dct kvs)) ∧ kvs.length < 100000 ∧ A.nx (as2.set j (.o a (.dct (putK kvs k v))))) :
    Ex K (sDPut (tVar j) ta te) A as := fun M F H σ D e f S B => by
  obtain ⟨hσ, _⟩ := S.geto hj
  refine h M F H σ _ e f S fun x as1 v F1 H1 ⟨v', hs, h1⟩ w S1 r1 => ?_
  have ev := scD_rp hs r1
  subst ev
  refine ⟨.ref a, hσ, h1 M F1 H1 σ _ w.fh (w.fr f) S1 fun y as2 u F2 H2 ⟨k, kvs, e1, h2, hl, h3⟩ w2 S2 r2 => ?_⟩
  subst e1
  have eu := kD_rp r2
  subst eu
  obtain ⟨_, hM, hF, hy⟩ := S2.geto h2
  exact ⟨a, _, rfl, DPut.k hy (szlt hl), B.nx _ _ _ _ h3 ((w.trans w2).trans (Wx.mut w2.fh hM hF _)) (S2.mut h2 upd_same)⟩
theorem x_ddel {j : Nat} {a : Addr} {kvs0 : List (Key × V)} (hj : as[j]? = some (.o a (.dct kvs0))) (h : Ev K ta as fun y as2 => ∃ k kvs, y = kD k ∧ as2[j]? = some (.o a (.dct kvs)) ∧ (valV kvs k).isSome = true ∧ A.nx (as2.set j (.o a (.dct (dropK kvs k))))) :
    Ex K (sDDel (tVar j) ta) A as := fun M F H σ D e f S B => by
  obtain ⟨hσ, _⟩ := S.geto hj
  refine ⟨.ref a, hσ, h M F H σ _ e f S fun y as2 u F2 H2 ⟨k, kvs, e1, h2, hl, h3⟩ w2 S2 r2 => ?_⟩
  subst e1
  have eu := kD_rp r2
  subst eu
  obtain ⟨_, hM, hF, hy⟩ := S2.geto h2
  exact ⟨a, kvs, k, rfl, hy, rfl, hl, B.nx _ _ _ _ h3 (w2.trans (Wx.mut w2.fh hM hF _)) (S2.mut h2 upd_same)⟩
/-- a frozen dict -/
def EvM (K : PySem.W.Frag) (te : TE) (as : List Sl) (Φ : List (Key × V) → List Sl → Prop) : Prop := ∀ (M : Addr → Prop) (F H : Hp) (σ : L2.St) (Q : VK), Same F H → Fr M H → Sd K M F H σ as →
  (∀ kvs as' a F' H', Φ kvs as' → Wx M F H F' H' → Sd K M F' H' σ as' → F' a = some (.dK kvs) → Q (.ref a) H') → te σ H Q
theorem EvM.mono {Ψ Φ : List (Key × V) → List Sl → Prop} (h : EvM K te as Ψ) (k : ∀ d as', Ψ d as' → Φ d as') : EvM K te as Φ := fun M F H σ Q e f S q => h M F H σ Q e f S fun d as' v F' H' a => q d as' v F' H' (k d as' a)
theorem em_var {i : Nat} {kvs : List (Key × V)} {Φ : List (Key × V) → List Sl → Prop} (h : as[i]? = some (.m kvs)) (k : Φ kvs as) : EvM K (tVar i) as Φ := fun M F H σ Q e f S q => by
  obtain ⟨o, h1, a, rfl, h2⟩ := S.slot h
  exact ⟨.ref a, h1, q _ _ a F H k (Wx.refl e) S h2⟩
theorem x_retM (h : EvM K te as fun kvs as1 => A.rm kvs as1) : Ex K (tRet te) A as := fun M F H σ D e f S B =>
  h M F H σ _ e f S fun u as1 a F1 H1 h1 w S1 ha => B.rm _ _ _ _ _ h1 w ha
/-- name = a frozen dict -/
theorem x_setM {i : Nat} (h : EvM K te as fun kvs as1 => A.nx (as1.set i (.m kvs))) : Ex K (tAsg te (gName i)) A as := fun M F H σ D e f S B =>
  h M F H σ _ e f S fun u as1 a F1 H1 h1 w S1 ha => B.nx _ _ _ _ h1 w (S1.set i (s := .m u) ⟨a, rfl, ha⟩ fun _ _ z => nomatch z)
theorem ev_dget (h : EvM K ta as fun kvs as1 => Ev K tb as1 fun y as2 => ∃ k v d, y = kD k ∧ valV kvs k = some v ∧ scD d = some v ∧ Φ d as2) : Ev K (tDGet ta tb) as Φ := fun M F H σ Q e f S q =>
  h M F H σ _ e f S fun kvs as1 a F1 H1 h1 w1 S1 ha => h1 M F1 H1 σ _ w1.fh (w1.fr f) S1 fun y as2 u F2 H2 ⟨k, v, d, e1, hv, hd, h2⟩ w2 S2 r2 => by
    subst e1
    have eu := kD_rp r2
    subst eu
    refine ⟨a, v, rfl, ?_, q d as2 v F2 H2 h2 (w1.trans w2) S2 ?_⟩
    · rw [← hv]; exact DGet.k (w2.fh _ _ (w2.ff _ _ ha))
    · cases d <;> simp [scD] at hd <;> subst hd <;> constructor
theorem ev_din (h : Ev K tb as fun y as1 => EvM K ta as1 fun kvs as2 => ∃ k, y = kD k ∧ Φ (.bool (valV kvs k).isSome) as2) : Ev K (tDIn tb ta) as Φ := fun M F H σ Q e f S q =>
  h M F H σ _ e f S fun y as1 u F1 H1 h1 w1 S1 r1 => h1 M F1 H1 σ _ w1.fh (w1.fr f) S1 fun kvs as2 a F2 H2 ⟨k, e1, h2⟩ w2 S2 ha => by
    subst e1
    have eu := kD_rp r1
    subst eu
    exact ⟨a, _, rfl, DGet.k (w2.fh _ _ ha), q _ as2 _ F2 H2 h2 (w1.trans w2) S2 (.bl _)⟩
theorem ev_dnotin (h : Ev K tb as fun y as1 => EvM K ta as1 fun kvs as2 => ∃ k, y = kD k ∧ Φ (.bool (!(valV kvs k).isSome)) as2) : Ev K (tDNotIn tb ta) as Φ := fun M F H σ Q e f S q =>
  h M F H σ _ e f S fun y as1 u F1 H1 h1 w1 S1 r1 => h1 M F1 H1 σ _ w1.fh (w1.fr f) S1 fun kvs as2 a F2 H2 ⟨k, e1, h2⟩ w2 S2 ha => by
    subst e1
    have eu := kD_rp r1
    subst eu
    exact ⟨a, _, rfl, DGet.k (w2.fh _ _ ha), q _ as2 _ F2 H2 h2 (w1.trans w2) S2 (.bl _)⟩
theorem ev_dget1 (h : EvM K ta as fun kvs as1 => Ev K tb as1 fun y as2 => ∃ k d, y = kD k ∧ scD d = some ((valV kvs k).getD .non) ∧ Φ d as2) : Ev K (tDGet1 ta tb) as Φ := fun M F H σ Q e f S q =>
  h M F H σ _ e f S fun kvs as1 a F1 H1 h1 w1 S1 ha => ⟨a, rfl, .inl ⟨kvs, .inl (w1.fh _ _ ha)⟩, h1 M F1 H1 σ _ w1.fh (w1.fr f) S1 fun y as2 u F2 H2 ⟨k, d, e1, hd, h2⟩ w2 S2 r2 => by
    subst e1
    have eu := kD_rp r2
    subst eu
    refine ⟨_, DGet.k (w2.fh _ _ (w2.ff _ _ ha)), q d as2 _ F2 H2 h2 (w1.trans w2) S2 ?_⟩
    generalize (valV kvs k).getD .non = v at hd
    cases d <;> simp [scD] at hd <;> subst hd <;> constructor⟩
abbrev rSortedDI : List V → Hp → VK → Prop := fun xs H Q => ∃ (a : Addr) (kvs : List (Key × V)) (ks : List Int), xs = [.ref a] ∧ Rd H a (.dK kvs) ∧ kvs.map (·.1) = ks.map Sum.inl ∧ ks.length < 64 ∧
    ∀ (ys : List Int) (p : Addr), ys.Perm ks → ys.Pairwise (· ≤ ·) → H p = none → Q (.ref p) (upd H p (.lst (ys.map V.int)))
theorem ev_sortedD (h : EvM K te as fun kvs as1 => ∃ ks : List Int, kvs.map (·.1) = ks.map Sum.inl ∧ ks.length < 64 ∧ ∀ ys : List Int, ys.Perm ks → ys.Pairwise (· ≤ ·) → Φ (.list (ys.map PyData.int)) as1) : Ev K (tCB rSortedDI (tCons te tNil)) as Φ := fun M F H σ Q e f S q =>
  h M F H σ _ e f S fun kvs as1 a F1 H1 ⟨ks, h1, h2, h3⟩ w1 S1 ha => ⟨a, kvs, ks, rfl, .inl (w1.fh _ _ ha), h1, h2, fun ys p pm pw hp => by
    have w2 := Wd.new w1.fh hp (.lst (ys.map V.int))
    exact q _ _ _ _ _ (h3 ys pm pw) (w1.trans w2.wx) (S1.wd w2) (.lst upd_same (RpA.ofInts ys))⟩
end
end Lp

set_option Elab.async false
set_option linter.all false
set_option maxRecDepth 100000
set_option maxHeartbeats 2000000
/-! Lp: promises, calls, a def's proof. -/
namespace Lp
open PySem PySem.Spec L2
/-! ### promises -/
/-- data in, data out -/
def spD (A : List PyData → (PyData → Prop) → Prop) : Sp := fun vs H Q _ => ∃ F ds Φ, Same F H ∧ RpA F vs ds ∧ A ds Φ ∧ ∀ d, Φ d → ∀ v F' H', Wd F H F' H' → Rp F' v d → Q v H'
/-- data in, a frozen dict out -/
def spM (A : List PyData → (List (Key × V) → Prop) → Prop) : Sp := fun vs H Q _ => ∃ F ds Φ, Same F H ∧ RpA F vs ds ∧ A ds Φ ∧ ∀ d, Φ d → ∀ a F' H', Wd F H F' H' → F' a = some (.dK d) → Q (.ref a) H'
/-- a pot and data in, data out -/
def spP (A : List PyData → Nat → (PyData → Nat → Prop) → Prop) : Sp := fun vs H Q _ => ∃ F p ws ds c Φ, vs = .ref p :: ws ∧ Same F H ∧ F p = none ∧ Ow F H p (.pot c) ∧ RpA F ws ds ∧ A ds c Φ ∧
  ∀ d c', Φ d c' → ∀ v F' H', Same F F' → Same F' H' → (∀ a o, a ≠ p → H a = some o → H' a = some o) → (∀ a, H a ≠ none → F a = none → F' a = none) → Ow F' H' p (.pot c') → Rp F' v d → Q v H'
/-- the script and data in, data out -/
def spS (K : PySem.W.Frag) (A : List Int → List PyData → (PyData → Prop) → Prop) : Sp := fun vs H Q _ => ∃ F a ns ws ds Φ, vs = .ref a :: ws ∧ Same F H ∧ SqL K F a (ns.map V.int) ∧ RpA F ws ds ∧ A ns ds Φ ∧ ∀ d, Φ d → ∀ v F' H', Wd F H F' H' → Rp F' v d → Q v H'
/-- the script and data in, a new object out -/
def spSN (K : PySem.W.Frag) (A : List Int → List PyData → (OD → Prop) → Prop) : Sp := fun vs H Q _ => ∃ F a ns ws ds Φ, vs = .ref a :: ws ∧ Same F H ∧ SqL K F a (ns.map V.int) ∧ RpA F ws ds ∧ A ns ds Φ ∧
  ∀ u, Φ u → ∀ b F' H', Wd F H F' H' → H b = none → F' b = none → Ow F' H' b u → Q (.ref b) H'
section
variable {K : PySem.W.Frag} {M : Addr → Prop} {F H F' H' F'' H'' : Hp} {as : List Sl} {Φ : Φd} {ta tb tc te : TE} {tt tu : TT} {tr : TA} {t u : TS} {A : AE} {E : XK}
theorem app_nil' {vs : List V} : vs ++ [] = vs := List.append_nil vs
theorem ev_call {B : List PyData → (PyData → Prop) → Prop} (h : EvA K tr as fun ds as1 => B ds fun d => Φ d as1) : Ev K (tCall (spD B) [] E tr) as Φ := fun M F H σ Q e f S q =>
  h M F H σ _ e f S fun ds as1 vs F1 H1 h1 w1 S1 r1 => ⟨F1, ds, _, w1.fh, by rw [app_nil']; exact r1, h1, fun d hd v F2 H2 w2 r2 => q d as1 v F2 H2 hd (w1.trans w2.wx) (S1.wd w2) r2⟩
theorem em_call {Φ : List (Key × V) → List Sl → Prop} {B : List PyData → (List (Key × V) → Prop) → Prop} (h : EvA K tr as fun ds as1 => B ds fun d => Φ d as1) : EvM K (tCall (spM B) [] E tr) as Φ := fun M F H σ Q e f S q =>
  h M F H σ _ e f S fun ds as1 vs F1 H1 h1 w1 S1 r1 => ⟨F1, ds, _, w1.fh, by rw [app_nil']; exact r1, h1, fun d hd v F2 H2 w2 r2 => q d as1 v F2 H2 hd (w1.trans w2.wx) (S1.wd w2) r2⟩
theorem ev_callP {j c0 : Nat} {p : Addr} {B : List PyData → Nat → (PyData → Nat → Prop) → Prop} (hj : as[j]? = some (.o p (.pot c0))) (h : EvA K tr as fun ds as1 => ∃ c, as1[j]? = some (.o p (.pot c)) ∧ B ds c fun d c' => Φ d (as1.set j (.o p (.pot c')))) :
    Ev K (tCall (spP B) [] E (tCons (tVar j) tr)) as Φ := fun M F H σ Q e f S q => by
  obtain ⟨hσ, _⟩ := S.geto hj
  refine ⟨.ref p, hσ, h M F H σ _ e f S fun ds as1 vs F1 H1 ⟨c, h1, h2⟩ w1 S1 r1 => ?_⟩
  obtain ⟨_, hM, hF, ho⟩ := S1.geto h1
  refine ⟨F1, p, vs, ds, c, _, by rw [app_nil'], w1.fh, hF, ho, r1, h2, fun d c' hd v F2 H2 k1 k2 k3 k4 k5 k6 => ?_⟩
  have w2 : Wx M F1 H1 F2 H2 := ⟨k1, k2, fun a o m hh => k3 a o (fun z => m (by rw [z]; exact hM)) hh, fun a _ h1 h2 => k4 a h1 h2⟩
  refine q d _ v F2 H2 hd (w1.trans w2) ⟨by rw [List.length_set, S1.len], fun i o s g1 g2 => ?_, fun i k b x y g1 g2 => ?_⟩ k6
  · rcases set_get g2 with ⟨e1, rfl⟩ | ⟨e1, g2⟩
    · subst e1
      have z := (S1.geto h1).1
      rw [z] at g1; cases g1
      exact ⟨rfl, hM, k4 p ho.ne0 hF, k5⟩
    · have z := S1.at_ i o s g1 g2
      cases s with
      | e => trivial
      | d x => obtain ⟨v, z1, z2⟩ := z; exact ⟨v, z1, Rp.mono k1 x z2⟩
      | s ns => obtain ⟨b, z1, z2⟩ := z; exact ⟨b, z1, k1.seq z2⟩
      | m kvs => obtain ⟨b, z1, z2⟩ := z; exact ⟨b, z1, k1 _ _ z2⟩
      | mt kvs => obtain ⟨b, z1, z2⟩ := z; exact ⟨b, z1, k1 _ _ z2⟩
      | o b y =>
        obtain ⟨z1, z2, z3, z4⟩ := z
        have ne : b ≠ p := fun q => e1 (S1.dis j i p _ _ h1 (by rw [← q]; exact g2))
        refine ⟨z1, z2, k4 b z4.ne0 z3, ?_⟩
        cases y with
        | lst es => obtain ⟨xs, y1, y2⟩ := z4; exact ⟨xs, k3 _ _ ne y1, RpA.mono k1 es y2⟩
        | dct kvs => exact k3 _ _ ne z4
        | dtu kvs => exact k3 _ _ ne z4
        | pot c => obtain ⟨xs, y1, y2⟩ := z4; exact ⟨xs, k3 _ _ ne y1, y2⟩
  · have e1 : ∃ x', as1[i]? = some (.o b x') := by
      rcases set_get g1 with ⟨e3, g1⟩ | ⟨_, g1⟩
      · cases g1; subst e3; exact ⟨_, h1⟩
      · exact ⟨_, g1⟩
    have e2 : ∃ x', as1[k]? = some (.o b x') := by
      rcases set_get g2 with ⟨e3, g2⟩ | ⟨_, g2⟩
      · cases g2; subst e3; exact ⟨_, h1⟩
      · exact ⟨_, g2⟩
    obtain ⟨_, e1⟩ := e1
    obtain ⟨_, e2⟩ := e2
    exact S1.dis i k b _ _ e1 e2
/-- a pot made on the way -/
theorem ev_callPN {B : List PyData → Nat → (PyData → Nat → Prop) → Prop} (h : EvN K te as fun u as1 => ∃ c, u = .pot c ∧ B [] c fun d _ => Φ d as1) : Ev K (tCall (spP B) [] E (tCons te tNil)) as Φ := fun M F H σ Q e f S q =>
  h M F H σ _ e f S fun u as1 p F1 H1 ⟨c, e1, h1⟩ w1 S1 hM hF ho hn => by
    subst e1
    refine ⟨F1, p, [], [], c, _, rfl, w1.fh, hF, ho, .nil, h1, fun d c' hd v F2 H2 k1 k2 k3 k4 k5 k6 => ?_⟩
    have w2 : Wx M F1 H1 F2 H2 := ⟨k1, k2, fun a o m hh => k3 a o (fun z => m (by rw [z]; exact hM)) hh, fun a _ h1 h2 => k4 a h1 h2⟩
    refine q d _ v F2 H2 hd (w1.trans w2) ⟨S1.len, fun i o s g1 g2 => ?_, S1.dis⟩ k6
    have z := S1.at_ i o s g1 g2
    cases s with
    | e => trivial
    | d x => obtain ⟨v, z1, z2⟩ := z; exact ⟨v, z1, Rp.mono k1 x z2⟩
    | s ns => obtain ⟨b, z1, z2⟩ := z; exact ⟨b, z1, k1.seq z2⟩
    | m kvs => obtain ⟨b, z1, z2⟩ := z; exact ⟨b, z1, k1 _ _ z2⟩
    | mt kvs => obtain ⟨b, z1, z2⟩ := z; exact ⟨b, z1, k1 _ _ z2⟩
    | o b y =>
      obtain ⟨z1, z2, z3, z4⟩ := z
      have ne : b ≠ p := fun q => hn i y (by rw [← q]; exact g2)
      refine ⟨z1, z2, k4 b z4.ne0 z3, ?_⟩
      cases y with
      | lst es => obtain ⟨xs, y1, y2⟩ := z4; exact ⟨xs, k3 _ _ ne y1, RpA.mono k1 es y2⟩
      | dct kvs => exact k3 _ _ ne z4
      | dtu kvs => exact k3 _ _ ne z4
      | pot c => obtain ⟨xs, y1, y2⟩ := z4; exact ⟨xs, k3 _ _ ne y1, y2⟩
theorem ev_callS {j : Nat} {ns : List Int} {B : List Int → List PyData → (PyData → Prop) → Prop} (hj : as[j]? = some (.s ns)) (h : EvA K tr as fun ds as1 => B ns ds fun d => Φ d as1) : Ev K (tCall (spS K B) [] E (tCons (tVar j) tr)) as Φ := fun M F H σ Q e f S q => by
  obtain ⟨a, hσ, ha⟩ := S.gets hj
  exact ⟨.ref a, hσ, h M F H σ _ e f S fun ds as1 vs F1 H1 h1 w1 S1 r1 => ⟨F1, a, ns, vs, ds, _, by rw [app_nil'], w1.fh, w1.ff.seq ha, r1, h1, fun d hd v F2 H2 w2 r2 => q d as1 v F2 H2 hd (w1.trans w2.wx) (S1.wd w2) r2⟩⟩
theorem en_callS {Φn : OD → List Sl → Prop} {j : Nat} {ns : List Int} {B : List Int → List PyData → (OD → Prop) → Prop} (hj : as[j]? = some (.s ns)) (h : EvA K tr as fun ds as1 => B ns ds fun d => Φn d as1) : EvN K (tCall (spSN K B) [] E (tCons (tVar j) tr)) as Φn := fun M F H σ Q e f S q => by
  obtain ⟨a, hσ, ha⟩ := S.gets hj
  exact ⟨.ref a, hσ, h M F H σ _ e f S fun ds as1 vs F1 H1 h1 w1 S1 r1 => ⟨F1, a, ns, vs, ds, _, by rw [app_nil'], w1.fh, w1.ff.seq ha, r1, h1, fun d hd b F2 H2 w2 k1 k2 k3 => q d as1 b F2 H2 hd (w1.trans w2.wx) (S1.wd w2) (w1.fr f b k1) k2 k3 (S1.fresh k1)⟩⟩
/-! ### the script -/
theorem ev_slen {j : Nat} {ns : List Int} (hj : as[j]? = some (.s ns)) (h : Φ (.int ns.length) as) : Ev K (tCB (rLenS K) (tCons (tVar j) tNil)) as Φ := fun M F H σ Q e f S q => by
  obtain ⟨a, hσ, ha⟩ := S.gets hj
  refine ⟨.ref a, hσ, a, _, rfl, .inl (e.seq ha), ?_⟩
  rw [List.length_map]
  exact q _ _ _ F H h (Wx.refl e) S (.int _)
theorem ev_six {j : Nat} {ns : List Int} (hj : as[j]? = some (.s ns)) (h : Ev K ta as fun y as1 => ∃ i n, y = .int i ∧ atI ns i = some n ∧ Φ (.int n) as1) : Ev K (tOp (rIxL K) (tVar j) ta) as Φ := fun M F H σ Q e f S q => by
  obtain ⟨a, hσ, ha⟩ := S.gets hj
  refine ⟨.ref a, hσ, h M F H σ _ e f S fun y as1 v F1 H1 ⟨i, n, e1, h1, h2⟩ w1 S1 r1 => ?_⟩
  subst e1
  cases r1
  refine ⟨a, _, i, .int n, rfl, rfl, w1.fh.seq (w1.ff.seq ha), ?_, q _ _ _ F1 H1 h2 w1 S1 (.int _)⟩
  unfold atI at h1 ⊢
  rw [List.length_map]
  cases e2 : ixN ns.length i with
  | none => rw [e2] at h1; cases h1
  | some k =>
    rw [e2] at h1
    have h1 : ns[k]? = some n := h1
    show (ns.map V.int)[k]? = some (.int n)
    rw [List.getElem?_map, h1]
    rfl
theorem ev_ssl {j : Nat} {ns : List Int} {tl th : TO} (hj : as[j]? = some (.s ns)) (h : EvO K tl as fun lo as1 => EvO K th as1 fun hi as2 => Φ (.list (cutD (ns.map PyData.int) lo hi)) as2) : Ev K (tSl (rSlL K) (tVar j) tl th) as Φ := fun M F H σ Q e f S q => by
  obtain ⟨a, hσ, ha⟩ := S.gets hj
  refine ⟨.ref a, hσ, h M F H σ _ e f S fun lo as1 F1 H1 h1 w1 S1 => h1 M F1 H1 σ _ w1.fh (w1.fr f) S1 fun hi as2 F2 H2 h2 w2 S2 => ⟨a, _, rfl, w2.fh.seq ((w1.ff.trans w2.ff).seq ha), fun p hp => ?_⟩⟩
  have w3 := Wd.new w2.fh hp (.lst (cutV (ns.map V.int) lo hi))
  exact q _ _ _ _ _ h2 ((w1.trans w2).trans w3.wx) (S2.wd w3) (.lst upd_same (cut_rp (RpA.ofInts ns) lo hi))
/-! ### pots opened and closed -/
def PotI (c : Nat) (o m n : Int) : Prop := 0 ≤ o ∧ o < 10 ^ 300 ∧ 0 ≤ m ∧ m < 2305843009213693921 ∧ 0 ≤ n ∧ n ≤ c
theorem x_open {j : Nat} {p : Addr} {c : Nat} (hj : as[j]? = some (.o p (.pot c))) (h : ∀ o m n, PotI c o m n → Ex K t A (as.set j (.o p (.lst [.int o, .int m, .int n])))) : Ex K t A as := fun M F H σ D e f S B => by
  obtain ⟨hσ, hM, hF, xs, hx, o, m, n, rfl, h1⟩ := S.geto hj
  refine h o m n h1 M F H σ D e f ⟨by rw [List.length_set, S.len], fun i u s g1 g2 => ?_, fun i k b x y g1 g2 => ?_⟩ B
  · rcases set_get g2 with ⟨e1, rfl⟩ | ⟨e1, g2⟩
    · subst e1; rw [hσ] at g1; cases g1
      exact ⟨rfl, hM, hF, _, hx, .cons (.int _) (.cons (.int _) (.cons (.int _) .nil))⟩
    · exact S.at_ i u s g1 g2
  · have e1 : ∃ x', as[i]? = some (.o b x') := by
      rcases set_get g1 with ⟨e3, g1⟩ | ⟨_, g1⟩
      · cases g1; subst e3; exact ⟨_, hj⟩
      · exact ⟨_, g1⟩
    have e2 : ∃ x', as[k]? = some (.o b x') := by
      rcases set_get g2 with ⟨e3, g2⟩ | ⟨_, g2⟩
      · cases g2; subst e3; exact ⟨_, hj⟩
      · exact ⟨_, g2⟩
    obtain ⟨_, e1⟩ := e1
    obtain ⟨_, e2⟩ := e2
    exact S.dis i k b _ _ e1 e2
/-! ### a def's reading -/
def startS (N : List Str) (ss : List Sl) : List Sl := ss ++ List.replicate (N.length - ss.length) .e
theorem start_sd {N : List Str} {vs : List V} {ss : List Sl} (hl : vs.length = ss.length) (ha : ∀ (i : Nat) (v : V) (s : Sl), vs[i]? = some v → ss[i]? = some s → Ss K M F H (some v) s) (hd : ∀ (i j : Nat) a u w, ss[i]? = some (.o a u) → ss[j]? = some (.o a w) → i = j) : Sd K M F H (L2.start N vs) (startS N ss) := by
  have nrep : ∀ (n i : Nat) (s : Sl), (List.replicate n Sl.e)[i]? = some s → s = .e := fun n i s h => (List.mem_replicate.mp (List.mem_of_getElem? h)).2
  refine ⟨by unfold L2.start startS; simp [hl], fun i o s h1 h2 => ?_, fun i j a u w h1 h2 => ?_⟩
  · unfold L2.start at h1
    unfold startS at h2
    by_cases hi : i < vs.length
    · rw [List.getElem?_append_left (by simpa using hi), List.getElem?_map] at h1
      rw [List.getElem?_append_left (by omega)] at h2
      obtain ⟨v, h3, rfl⟩ := Option.map_eq_some_iff.mp h1
      exact ha i v s h3 h2
    · rw [List.getElem?_append_right (by omega)] at h2
      rw [nrep _ _ _ h2]
      trivial
  · unfold startS at h1 h2
    by_cases hi : i < ss.length
    · by_cases hj : j < ss.length
      · rw [List.getElem?_append_left hi] at h1
        rw [List.getElem?_append_left hj] at h2
        exact hd i j a u w h1 h2
      · rw [List.getElem?_append_right (by omega)] at h2
        cases nrep _ _ _ h2
    · rw [List.getElem?_append_right (by omega)] at h1
      cases nrep _ _ _ h1
theorem rpa_ss {vs : List V} {ds : List PyData} (r : RpA F vs ds) : ∀ (i : Nat) (v : V) (s : Sl), vs[i]? = some v → (ds.map Sl.d)[i]? = some s → Ss K M F H (some v) s := fun i v s h1 h2 => by
  obtain ⟨d, h3, h4⟩ := r.get h1
  rw [List.getElem?_map, h3] at h2
  cases h2
  exact ⟨v, rfl, h4⟩
theorem map_d_no {ds : List PyData} {i : Nat} {a : Addr} {u : OD} (h : (ds.map Sl.d)[i]? = some (.o a u)) : False := by
  rw [List.getElem?_map] at h
  obtain ⟨_, _, h⟩ := Option.map_eq_some_iff.mp h
  cases h
def Ends.fn (Q : VK) : Ends := { nx := fun _ H' => Q .non H', rt := Q }
theorem rd_D {N : List Str} {B : List PyData → (PyData → Prop) → Prop} (h : ∀ ds Φ, B ds Φ → Ex K t { nx := fun _ => Φ .none, rt := fun d _ => Φ d } (startS N (ds.map .d))) (vs : List V) (H : Hp) (Q : VK) (E : XK) (hs : spD B vs H Q E) :
    t { nx := fun _ H' => Q .non H', rt := Q } (L2.start N vs) H := by
  obtain ⟨F, ds, Φ, e, r, hA, q⟩ := hs
  have wd : ∀ {F' H' : Hp}, Wx (fun a => H a = none) F H F' H' → Wd F H F' H' := fun w => ⟨w.ff, w.fh, fun a o hh => w.hh a o (fun z => by rw [z] at hh; cases hh) hh, fun a h1 h2 => w.own a h1 h1 h2⟩
  refine h ds Φ hA (fun a => H a = none) F H _ _ e (fun _ h => h) (start_sd (by rw [List.length_map, r.len]) (rpa_ss r) fun i j a u w h1 _ => (map_d_no h1).elim) ⟨fun as' σ' F' H' hn w S => q .none hn _ F' H' (wd w) .non, fun d as' v σ' F' H' hr w S r => q d hr v F' H' (wd w) r, fun _ _ _ _ z => z.elim, fun _ _ _ _ z => z.elim, fun _ _ _ _ _ z => z.elim, fun _ _ _ _ _ z => z.elim⟩
theorem rd_M {N : List Str} {B : List PyData → (List (Key × V) → Prop) → Prop} (h : ∀ ds Φ, B ds Φ → Ex K t { nx := fun _ => False, rt := fun _ _ => False, rm := fun d _ => Φ d } (startS N (ds.map .d))) (vs : List V) (H : Hp) (Q : VK) (E : XK) (hs : spM B vs H Q E) :
    t { nx := fun _ H' => Q .non H', rt := Q } (L2.start N vs) H := by
  obtain ⟨F, ds, Φ, e, r, hA, q⟩ := hs
  have wd : ∀ {F' H' : Hp}, Wx (fun a => H a = none) F H F' H' → Wd F H F' H' := fun w => ⟨w.ff, w.fh, fun a o hh => w.hh a o (fun z => by rw [z] at hh; cases hh) hh, fun a h1 h2 => w.own a h1 h1 h2⟩
  refine h ds Φ hA (fun a => H a = none) F H _ _ e (fun _ h => h) (start_sd (by rw [List.length_map, r.len]) (rpa_ss r) fun i j a u w h1 _ => (map_d_no h1).elim) ⟨fun _ _ _ _ z => z.elim, fun _ _ _ _ _ _ z => z.elim, fun _ _ _ _ z => z.elim, fun _ _ _ _ z => z.elim, fun _ _ _ _ _ z => z.elim, fun kvs as' a F' H' hr w r => q kvs hr a F' H' (wd w) r⟩
theorem rd_S {N : List Str} {B : List Int → List PyData → (PyData → Prop) → Prop} (h : ∀ ns ds Φ, B ns ds Φ → Ex K t { nx := fun _ => False, rt := fun d _ => Φ d } (startS N (.s ns :: ds.map .d))) (vs : List V) (H : Hp) (Q : VK) (E : XK) (hs : spS K B vs H Q E) :
    t { nx := fun _ H' => Q .non H', rt := Q } (L2.start N vs) H := by
  obtain ⟨F, b, ns, ws, ds, Φ, rfl, e, hb, r, hA, q⟩ := hs
  have wd : ∀ {F' H' : Hp}, Wx (fun a => H a = none) F H F' H' → Wd F H F' H' := fun w => ⟨w.ff, w.fh, fun a o hh => w.hh a o (fun z => by rw [z] at hh; cases hh) hh, fun a h1 h2 => w.own a h1 h1 h2⟩
  refine h ns ds Φ hA (fun a => H a = none) F H _ _ e (fun _ h => h) (start_sd (by simp [r.len]) (fun i v s h1 h2 => ?_) fun i j a u w h1 h2 => ?_) ⟨fun _ _ _ _ z => z.elim, fun d as' v σ' F' H' hr w S r => q d hr v F' H' (wd w) r, fun _ _ _ _ z => z.elim, fun _ _ _ _ z => z.elim, fun _ _ _ _ _ z => z.elim, fun _ _ _ _ _ z => z.elim⟩
  · cases i with
    | zero => cases h1; cases h2; exact ⟨b, rfl, hb⟩
    | succ i => exact rpa_ss r i v s (by simpa using h1) (by simpa using h2)
  · cases i with
    | zero => cases h1
    | succ i => exact (map_d_no (ds := ds) (i := i) (a := a) (u := u) (by simpa using h1)).elim
theorem rd_SN {N : List Str} {B : List Int → List PyData → (OD → Prop) → Prop} (h : ∀ ns ds Φ, B ns ds Φ → Ex K t { nx := fun _ => False, rt := fun d _ => False, rn := fun u _ => Φ u } (startS N (.s ns :: ds.map .d))) (vs : List V) (H : Hp) (Q : VK) (E : XK) (hs : spSN K B vs H Q E) :
    t { nx := fun _ H' => Q .non H', rt := Q } (L2.start N vs) H := by
  obtain ⟨F, b, ns, ws, ds, Φ, rfl, e, hb, r, hA, q⟩ := hs
  have wd : ∀ {F' H' : Hp}, Wx (fun a => H a = none) F H F' H' → Wd F H F' H' := fun w => ⟨w.ff, w.fh, fun a o hh => w.hh a o (fun z => by rw [z] at hh; cases hh) hh, fun a h1 h2 => w.own a h1 h1 h2⟩
  refine h ns ds Φ hA (fun a => H a = none) F H _ _ e (fun _ h => h) (start_sd (by simp [r.len]) (fun i v s h1 h2 => ?_) fun i j a u w h1 h2 => ?_) ⟨fun _ _ _ _ z => z.elim, fun _ _ _ _ _ _ z => z.elim, fun _ _ _ _ z => z.elim, fun _ _ _ _ z => z.elim, fun u as' a F' H' hu w hM hF ho => q u hu a F' H' (wd w) hM hF ho, fun _ _ _ _ _ z => z.elim⟩
  · cases i with
    | zero => cases h1; cases h2; exact ⟨b, rfl, hb⟩
    | succ i => exact rpa_ss r i v s (by simpa using h1) (by simpa using h2)
  · cases i with
    | zero => cases h1
    | succ i => exact (map_d_no (ds := ds) (i := i) (a := a) (u := u) (by simpa using h1)).elim
/-- with a pot at slot 0: it stands there at the end -/
theorem rd_P {N : List Str} {B : List PyData → Nat → (PyData → Nat → Prop) → Prop} (h : ∀ p ds c Φ, B ds c Φ → Ex K t { nx := fun _ => False, rt := fun d as' => ∃ c', as'[0]? = some (.o p (.pot c')) ∧ Φ d c' } (startS N (.o p (.pot c) :: ds.map .d))) (vs : List V) (H : Hp) (Q : VK) (E : XK) (hs : spP B vs H Q E) :
    t { nx := fun _ H' => Q .non H', rt := Q } (L2.start N vs) H := by
  obtain ⟨F, p, ws, ds, c, Φ, rfl, e, hF, ho, r, hA, q⟩ := hs
  refine h p ds c Φ hA (fun a => H a = none ∨ a = p) F H _ _ e (fun _ h => .inl h) (start_sd (by simp [r.len]) (fun i v s h1 h2 => ?_) fun i j a u w h1 h2 => ?_) ⟨fun _ _ _ _ z => z.elim, fun d as' v σ' F' H' ⟨c', h1, h2⟩ w S r => ?_, fun _ _ _ _ z => z.elim, fun _ _ _ _ z => z.elim, fun _ _ _ _ _ z => z.elim, fun _ _ _ _ _ z => z.elim⟩
  · cases i with
    | zero => cases h1; cases h2; exact ⟨rfl, .inr rfl, hF, ho⟩
    | succ i => exact rpa_ss r i v s (by simpa using h1) (by simpa using h2)
  · cases i with
    | zero =>
      cases j with
      | zero => rfl
      | succ j => exact (map_d_no (ds := ds) (i := j) (a := a) (u := w) (by simpa using h2)).elim
    | succ i => exact (map_d_no (ds := ds) (i := i) (a := a) (u := u) (by simpa using h1)).elim
  · obtain ⟨_, _, k1, k2⟩ := S.geto h1
    refine q d c' h2 v F' H' w.ff w.fh (fun a o ne hh => w.hh a o (fun z => ?_) hh) (fun a h3 h4 => ?_) k2 r
    · rcases z with z | z
      · rw [z] at hh; cases hh
      · exact ne z
    · by_cases ea : a = p
      · rw [ea]; exact k1
      · exact w.own a (fun z => z.elim h3 ea) h3 h4
end
/-! ### a def that keeps its promise -/
section
variable {P : Program} {w : World} {K : PySem.W.Frag} {mg : Str → Option Value} {base : Heap}
structure Df (P : Program) (w : World) (K : PySem.W.Frag) (mg : Str → Option Value) (base : Heap) (k : Nat) (x : Str) (ps : List Str) (sp : Sp) : Prop where
  ex : ∃ fd, mg x = some (.ref (He.ga K x)) ∧ PySem.W.keepIn K (.ref (He.ga K x)) = true ∧ Binds K fd ps [] ∧ FnOk P w K mg base CX0 k (He.ga K x) fd ps sp
theorem df_mk {x : Str} {st : Stmt} {N ps : List Str} {k : Nat} {sp : Sp} {t : TS} (hd : ∃ fd, FunD K x x (defArgs st) (defBody st) (defScope st) [] [] (He.fAd K (x, none)) fd) (hm : mg x = some (.ref (He.ga K x))) (S : FnScope N ps (defScope st))
    (hb : ∀ (kV doc pm : Value) (an : Option Addr) (cdv ct : Value) (us : List Value), us.length = ps.length → bindArgs (PySem.W.fnOf x x (defArgs st) (defBody st) (defScope st) .none kV doc pm an cdv ct) ⟨us, []⟩ = pure (ps.zip us))
    (len : ∀ vs H Q E, sp vs H Q E → vs.length = ps.length)
    (der : ∀ (cdv : Value) (A : Around) (outer : List Env) (s : Shared) (H : Hp) (E : XK), Room k (A.deeper (PyProof.Rows.envOfC x (defScope st) s.heap.objs.size (He.ga K x) cdv)) → PSs (cxOf CX0 P w K mg base N x (defScope st) (He.ga K x) cdv A outer s H E).nox (defBody st) t)
    (rd : ∀ vs H Q E, sp vs H Q E → t { nx := fun _ H' => Q .non H', rt := Q } (L2.start N vs) H) : Df P w K mg base (k + 1) x ps sp := by
  obtain ⟨fd, F⟩ := hd
  exact ⟨fd, hm, F.kp, F.bindsN hb, F.ok S len fun cdv A outer s H vs Q E hr h => ⟨t, (der cdv A outer s H E hr).nox, rd vs H Q E h⟩⟩
theorem pe_callF {X : Cx} {x : Str} {ps : List Str} {sp : Sp} {k j : Nat} {e : Expr} {es : List Expr} {ta : TA} {p pos : Pos} (D : Df X.prog X.w X.K X.mg X.base k x ps sp) (hr : Room j X.A) (hk : k ≤ j) (ha : PA X (e :: es) ta) (hg : Gl X x := by rfl)
    (hd : (x == ("__debug__" : Str)) = false := by decide) (he : starEach (e :: es) X.env = (false, eval e X.env) :: starEach es X.env := by rfl) (hpl : (backTo pos (starEach es X.env)).any (·.1) = false := by rfl) :
    PE X (.Call (.Name x p) (e :: es) [] pos) (tCall sp [] E0 ta) := by
  obtain ⟨fd, h1, h2, h3, h4⟩ := D.ex
  exact pe_call h4 (hr.mono hk) hg h1 h2 h3 .nil pass0 ha hd he hpl
theorem lenD {A : List PyData → (PyData → Prop) → Prop} {ps : List Str} (h : ∀ ds Φ, A ds Φ → ds.length = ps.length) : ∀ vs H Q E, spD A vs H Q E → vs.length = ps.length := fun vs H Q E ⟨F, ds, Φ, e, r, a, q⟩ => r.len.trans (h ds Φ a)
theorem lenM {A : List PyData → (List (Key × V) → Prop) → Prop} {ps : List Str} (h : ∀ ds Φ, A ds Φ → ds.length = ps.length) : ∀ vs H Q E, spM A vs H Q E → vs.length = ps.length := fun vs H Q E ⟨F, ds, Φ, e, r, a, q⟩ => r.len.trans (h ds Φ a)
theorem lenP {A : List PyData → Nat → (PyData → Nat → Prop) → Prop} {ps : List Str} (h : ∀ ds c Φ, A ds c Φ → ds.length + 1 = ps.length) : ∀ vs H Q E, spP A vs H Q E → vs.length = ps.length := fun vs H Q E ⟨F, p, ws, ds, c, Φ, e, _, _, _, r, a, q⟩ => by rw [e, ← h ds c Φ a, ← r.len]; rfl
theorem lenS {A : List Int → List PyData → (PyData → Prop) → Prop} {ps : List Str} (h : ∀ ns ds Φ, A ns ds Φ → ds.length + 1 = ps.length) : ∀ vs H Q E, spS K A vs H Q E → vs.length = ps.length := fun vs H Q E ⟨F, p, ns, ws, ds, Φ, e, _, _, r, a, q⟩ => by rw [e, ← h ns ds Φ a, ← r.len]; rfl
theorem lenSN {A : List Int → List PyData → (OD → Prop) → Prop} {ps : List Str} (h : ∀ ns ds Φ, A ns ds Φ → ds.length + 1 = ps.length) : ∀ vs H Q E, spSN K A vs H Q E → vs.length = ps.length := fun vs H Q E ⟨F, p, ns, ws, ds, Φ, e, _, _, r, a, q⟩ => by rw [e, ← h ns ds Φ a, ← r.len]; rfl
end
end Lp

set_option Elab.async false
set_option linter.all false
set_option maxRecDepth 100000
set_option maxHeartbeats 4000000
/-! Lp: rules that the layer lacks: powers of great numbers, a module's number, max of a dict's values, len(set(tuple)). -/
namespace Lp
open PySem PySem.Spec PyProof.Rows L2
section
variable {X : Cx}
def CPowB (i j : Int) : Prop := 0 ≤ j ∧ (Builtin.Int.intBits i : Int) * j ≤ 2 ^ 27
theorem op_powB : OpR X (binaryOp .Pow) (rI CPowB fun i j => .int (i ^ j.toNat)) := opI fun _ _ _ _ _ _ _ c q => pow_int c.1 c.2 q
theorem pe_gint {x : Str} {n : Int} {pos : Pos} (h : ∃ t, X.mg x = some (.int n t)) (hg : Gl X x := by rfl) (hd : (x == ("__debug__" : Str)) = false := by decide) : PE X (.Name x pos) (tC (.int n)) := by
  obtain ⟨t, h⟩ := h
  exact pe_glob hg h ⟨t, rfl⟩ hd
theorem pe_gstr {x z : Str} {pos : Pos} (h : ∃ t, X.mg x = some (.str z t)) (hg : Gl X x := by rfl) (hd : (x == ("__debug__" : Str)) = false := by decide) : PE X (.Name x pos) (tC (.str z)) := by
  obtain ⟨t, h⟩ := h
  exact pe_glob hg h ⟨t, rfl⟩ hd
/-- max(o.values()): a dict of ints, not empty -/
def tMaxVals (td : TE) : TE := fun σ H Q => td σ H fun x H1 => ∃ a kvs is, x = V.ref a ∧ H1 a = some (.dK kvs) ∧ kvs.map (·.2) = is.map V.int ∧ is ≠ [] ∧ ∀ m, m ∈ is → (∀ j ∈ is, j ≤ m) → Q (.int m) H1
theorem pe_maxVals {o : Expr} {p pos apos mpos : Pos} {td : TE} (hc : X.calm = true) (hg : Gl X "max") (hm : X.mg "max" = none) (hd : PE X o td) (hb : attributeBase o "values" X.env (eval o X.env) = eval o X.env := by rfl) (hl : (apos.endLine == mpos.line) = true := by rfl)
    (hs : starEach [Expr.Call (.Attribute o "values" apos) [] [] mpos] X.env = [(false, eval (Expr.Call (.Attribute o "values" apos) [] [] mpos) X.env)] := by rfl) : PE X (.Call (.Name "max" p) [.Call (.Attribute o "values" apos) [] [] mpos] [] pos) (tMaxVals td) := by
  constructor
  intro pins s σ H Q I h
  apply wpAny_Call_Name_kw
  apply ld_blt I hg hm (u := .builtin "max") (by decide +kernel) _ (by decide +kernel) (by decide +kernel)
  rw [hs]
  apply PySem.callWith_builtin1
  apply wpAny_Call_method0_late hb hl
  refine thn (hd.run pins s σ H _ I h) ?_
  rintro v s1 ⟨x, H1, J, rv, a, kvs, is, rfl, ha, hv, hne, q⟩
  have ev : v = Value.ref a := rv
  subst ev
  obtain ⟨_, low, vs, rel, dof⟩ := dk_of J.hok ha
  obtain ⟨ep, dat⟩ := dof.dictAt
  obtain ⟨ob, es, ho, ex, hdat, hko, hpr, hnd⟩ := id dat
  refine ⟨"dict", "dict.values", F.plainAttrs_dict, F.slot_dict_values, F.type_dict_values, ⟨ob, ho, ex.1⟩, ?_, Calls.callWith_builtin rfl (PySem.evalArgs_none ?_)⟩
  · intro b e; cases e; exact ⟨ob, ho, ex.2.1⟩
  refine call_meetsIn F.slot_dict_values ⟨ob, ho, ex.1⟩ F.entry_dict_values (F.args_dict_values_1 _) (meets_dict_values (mixKind X.prog X.w) a low) ⟨⟨vs, dof⟩, ?_⟩
  generalize hvw : ({ cls := .type "dict_values", data := .fields #[.ref a] } : Obj) = vw
  have kp : ∀ b u, s1.heap.get? b = some u → (s1.heap.push vw).get? b = some u := fun b u e => Heap.get?_push_of_some _ e
  have dat1 : (s1.heap.push vw).DictAt (mixKind X.prog X.w) a vs ep := dat.keep kp
  have len : vs.length = is.length := by
    have := congrArg List.length hv
    simp only [List.length_map] at this
    rw [← this, KV.length rel]
  have pos : 0 < vs.length := len ▸ List.length_pos_iff.mpr hne
  have val : ∀ (i : Nat) (v : Value), (∃ k, vs[i]? = some (k, v)) → ∃ t, v = Value.int (is.getD i 0) t := by
    rintro i v ⟨k, hk⟩
    obtain ⟨x, g1, g2⟩ := KV.at' rel hk
    have g3 : (kvs.map (·.2))[i]? = some x := by rw [List.getElem?_map, g1]; rfl
    rw [hv, List.getElem?_map] at g3
    obtain ⟨j, hj, rfl⟩ := Option.map_eq_some_iff.mp g3
    obtain ⟨t, g4⟩ := g2
    exact ⟨t, by rw [g4, List.getD_eq_getElem?_getD, hj]; rfl⟩
  have vw1 : (s1.heap.push vw).get? s1.heap.objs.size = some { cls := .type "dict_values", data := .fields #[.ref a] } := by rw [← hvw]; exact Heap.get?_push_size _ rfl
  have alt : a < s1.heap.objs.size := Heap.lt_size ho
  have sz : (s1.heap.push vw).objs.size = s1.heap.objs.size + 1 := Heap.size_push _ _
  apply call_max_walk
  refine wpAny_pyIter_values (v := s1.heap.objs.size) (d := a) ⟨_, vw1, rfl, rfl⟩ dat1 ?_
  refine ⟨_, _, _, _, _, _, _, rfl, Walks.dictValues (knd := mixKind X.prog X.w) (A := X.A.in1) (I.ok.hd hc) (s1.heap.push vw).objs.size a (by rw [sz]; exact Nat.ne_of_lt (Nat.lt_succ_of_lt alt)) vs ep, ⟨⟨_, Heap.get?_push_size _ rfl, rfl, rfl⟩, dat1.keep fun b u e => Heap.get?_push_of_some _ e⟩, ?_, pos, CmpOf.ints_gt (fun i => is.getD i 0) val, ?_⟩
  · intro b hb
    show b < ((s1.heap.push _).push _).objs.size
    rw [Heap.size_push]
    simp only [List.mem_cons, List.not_mem_nil, or_false] at hb
    rcases hb with rfl | rfl
    · exact Nat.lt_succ_self _
    · rw [sz]; exact Nat.lt_succ_of_lt (Nat.lt_succ_of_lt alt)
  · intro v h' tk hP hk
    obtain ⟨t, rfl⟩ := val _ v hP
    obtain ⟨b1, b2⟩ := argBest_gt (fun i => is.getD i 0) (vs.length - 1)
    refine ⟨.int _, H1, J.kept (t' := tk) ?_, ⟨t, rfl⟩, q _ ?_ ?_⟩
    · intro b u e
      refine hk b u (fun hm => ?_) (Heap.get?_push_of_some _ (kp b u e))
      have hlt := Heap.lt_size e
      simp only [List.mem_cons, List.not_mem_nil, or_false] at hm
      rw [hm, sz] at hlt
      exact Nat.not_succ_le_self _ (Nat.le_of_succ_le hlt)
    · generalize hg : argBest (fun i j => decide (is.getD i 0 > is.getD j 0)) (vs.length - 1) = g at b1 ⊢
      have hl : g < is.length := by omega
      rw [List.getD_eq_getElem?_getD, List.getElem?_eq_getElem hl]
      exact List.getElem_mem hl
    · intro j hj
      obtain ⟨i, hi, rfl⟩ := List.mem_iff_getElem.mp hj
      have e2 : is.getD i 0 = is[i] := by rw [List.getD_eq_getElem?_getD, List.getElem?_eq_getElem hi]; rfl
      rw [← e2]
      exact b2 i (by omega)
/-- len(set(t)), t a tuple of ints, no two alike -/
def tLenSetT (K : PySem.W.Frag) (ta : TE) : TE := fun σ H Q => ta σ H fun x H1 => ∃ (l : Addr) (ns : List Int), x = .ref l ∧ SqT K H1 l (ns.map V.int) ∧ ns.Nodup ∧ ns.length ≤ 4000 ∧ Q (.int (ns.length : Nat)) H1
theorem pe_lenSetT {a : Expr} {ta : TE} {p p2 q pos : Pos} (hg : Gl X "len") (hm : X.mg "len" = none) (hg2 : Gl X "set") (hm2 : X.mg "set" = none) (ha : PE X a ta) (hc : X.calm = true := by rfl)
    (na : starEach [a] X.env = (false, eval a X.env) :: starEach [] X.env := by rfl) : PE X (.Call (.Name "len" p) [.Call (.Name "set" p2) [a] [] q] [] pos) (tLenSetT X.K ta) := by
  constructor
  intro pins s σ H Q I h
  refine Call_ (ld_blt I hg hm boot_len (callWith_builtin1 (args_cons ?_ rfl) rfl rfl))
  refine Call_ (ld_blt I hg2 hm2 boot_set ?_)
  refine callWith_type1 (args_cons (thn (ha.run pins s σ H _ I h) ?_) na) na rfl
  rintro v s1 ⟨x, H1, J, rv, l, ns, rfl, hq, nd, hl, q1⟩
  apply args_nil
  have ev : v = Value.ref l := rv
  subst ev
  obtain ⟨its, r, tup, hz⟩ := J.tuple hq
  refine call_set_tupI ns (J.ok.hd hc) tup (by simpa using RZ.intsAre_vals r) (by unfold scanBound; omega) ?_
  intro h' tk c hS hc hk
  apply args_nil
  obtain ⟨o, es, ep, t, ho, hex, hd, g, ndk, hm, hb, hf, hn, _⟩ := hS
  have J2 : Inv X pins σ H1 { s1 with heap := h', toks := tk } := J.kept hk
  have pm : (es.toList.map keyOf).Perm ns := (List.perm_ext_iff_of_nodup ndk nd).mpr fun k => by
    rw [← hm k]
    exact decide_eq_true_iff
  have en : es.size = ns.length := by
    have := pm.length_eq
    rw [List.length_map, Array.length_toList] at this
    exact this
  exact call_len_set ho hex hd hf (by rw [en]; omega) ⟨.int ns.length, H1, J2.tok _, ⟨_, by rw [en]⟩, q1⟩
end
section
variable {K : PySem.W.Frag} {M : Addr → Prop} {F H : Hp} {as : List Sl} {Φ : Φd} {ta tb te : TE}
theorem ev_maxVals (h : EvM K te as fun kvs as1 => ∃ is : List Int, kvs.map (·.2) = is.map V.int ∧ is ≠ [] ∧ ∀ m, m ∈ is → (∀ j ∈ is, j ≤ m) → Φ (.int m) as1) : Ev K (tMaxVals te) as Φ := fun M F H σ Q e f S q =>
  h M F H σ _ e f S fun kvs as1 a F1 H1 ⟨is, h1, h2, h3⟩ w1 S1 ha => ⟨a, kvs, is, rfl, w1.fh _ _ ha, h1, h2, fun m m1 m2 => q _ _ _ F1 H1 (h3 m m1 m2) w1 S1 (.int m)⟩
theorem ev_lenSetT (h : Ev K te as fun x as1 => ∃ ns : List Int, x = .tuple (ns.map PyData.int) ∧ ns.Nodup ∧ ns.length ≤ 4000 ∧ Φ (.int ns.length) as1) : Ev K (tLenSetT K te) as Φ := fun M F H σ Q e f S q =>
  h M F H σ _ e f S fun x as1 v F1 H1 ⟨ns, e1, h1, h2, h3⟩ w1 S1 r1 => by
    subst e1
    cases r1 with
    | tup a b =>
      have ex := RpA.ints b; subst ex
      exact ⟨_, ns, rfl, .of (w1.fh _ _ a), h1, h2, q _ _ _ F1 H1 h3 w1 S1 (.int _)⟩
theorem en_lstRg1 {Φn : OD → List Sl → Prop} (h : Ev K te as fun x as1 => ∃ n : Int, x = .int n ∧ -100000 ≤ n ∧ n ≤ 100000 ∧ Φn (.lst ((rangeI 0 n.toNat).map PyData.int)) as1) : EvN K (tLstRg (tRg1 te)) as Φn := fun M F H σ Q e f S q =>
  h M F H σ _ e f S fun x as1 v F1 H1 ⟨n, e1, n1, n2, h1⟩ w1 S1 r1 => by
    subst e1
    cases r1
    refine ⟨n, rfl, ⟨by omega, by omega, by omega, by omega, by omega⟩, fun p hp => ?_⟩
    have w2 := Wd.newo w1.fh hp (.lst (rgV 0 n))
    have e2 : rgV 0 n = (rangeI 0 n.toNat).map V.int := by simp [rgV, rangeI]
    refine q _ _ _ _ _ h1 (w1.trans w2.wx) (S1.wd w2) (w1.fr f p hp) (same_none w1.fh hp) ⟨_, upd_same, ?_⟩ (S1.fresh hp)
    rw [e2]
    exact RpA.ofInts _
end
end Lp

set_option Elab.async false
set_option linter.all false
set_option maxRecDepth 100000
set_option maxHeartbeats 8000000
/-! Lp: set(xs) of a list of ints, and sorted of it. -/
namespace Lp
open PySem PySem.Spec PyProof.Rows L2
abbrev freshSet (w : World) : Obj := { cls := .type "set", dict := none, data := .set #[] 0 (.fresh 0 0 (!w.params.followText "set-order")) }
section
variable {P : Program} {w : World} {A : Around} {E : Value → Shared → Prop} {s : Shared}
/-- what set.__init__ leaves behind, of a list of the ints ns -/
def SetDone (w : World) (s : Shared) (ns : List Int) (r : Value) (s2 : Shared) : Prop :=
  r = .none ∧ ∃ h' tk c, s2 = { s with heap := h', toks := tk } ∧ SetR w h' s.heap.objs.size (fun j => decide (j ∈ ns)) c ∧ c ≤ ns.length ∧ ∀ b o, s.heap.get? b = some o → h'.get? b = some o
theorem set_of_list {l : Addr} {items : Array Value} (ns : List Int) {Q : Value → Shared → Prop} (hh : A.handled = none) (hl : s.heap.IsList l items) (hi : IntsAre items.toList ns) (hb : ns.length + 1 < scanBound)
    (h : ∀ (h' : Heap) (tk c : Nat), SetR w h' s.heap.objs.size (fun j => decide (j ∈ ns)) c → c ≤ ns.length → (∀ b o, s.heap.get? b = some o → h'.get? b = some o) → Q (.ref s.heap.objs.size) { s with heap := h', toks := tk }) :
    wpAny (model P w) A (call (.type "set") [.ref l]) Q E s := by
  have sz : items.size = ns.length := by have := IntsAre.length hi; rwa [Array.length_toList] at this
  obtain ⟨c, tl, hmro⟩ := F.called_set.mro
  have hmade := F.called_set.made; have hsub := F.called_set.sub
  apply wpAny_call; apply codeAny_of_tree
  change wpAny _ _ (callAny (.type "set") _) _ _ _
  refine wpAny_pure ⟨Code.quiet_builtin _ (by decide +kernel), codeAny_builtin F.entry_type_call ?_⟩
  rw [Around.under_plain (weight_type_call_type "set" [.ref l] []) rfl]
  have g1 := F.called_set.notType; have g2 := F.called_set.canCreate; have g3 := F.typeCall_set_1 (.ref l)
  repeat (any_goals (first | assumption | wp_step))
  refine codeAny_mono (code_set_led1 (.ref l) (E := E) (Q₁ := fun obj s₁ => obj = .ref s.heap.objs.size ∧ s₁ = { s with heap := s.heap.push (freshSet w) }) ⟨rfl, rfl⟩) ?_
  intro r s₁ hr
  match r, hr with
  | .error e, hr => exact hr
  | .ok (.ret obj), ⟨e1, e2⟩ =>
    subst e1 e2
    have a1 : (s.heap.push (freshSet w)).get? s.heap.objs.size = some (freshSet w) := Heap.get?_push_size _ rfl
    have a2 : Shared.TypeIs { s with heap := s.heap.push (freshSet w) } (.ref s.heap.objs.size) "set" := ⟨_, a1, rfl⟩
    have a3 := F.called_set.init.lookup; have a4 := F.called_set.init.bind (.ref s.heap.objs.size)
    repeat (any_goals (first | assumption | wp_step))
    refine codeAny_mono (codeAny_call_builtin (R := wants (SetDone w s ns) E) F.called_set.init.plain F.entry_set_init (check_set_init_1 a2 ?_)) ?_
    · obtain ⟨⟨oc, od, odt, osl⟩, hol, hcl, nl, hdl⟩ := id hl
      simp only at hcl hdl; subst hcl hdl
      have b1 : (s.heap.push (freshSet w)).get? l = some { cls := .type "list", dict := od, data := .seq items nl, slots := osl } := Heap.get?_push_of_some _ hol
      have b2 := F.sub_list_set; have b3 := F.sub_list_frozenset
      have b4 : (Value.type "list" == Value.type "dict") = false := by decide
      have b5 : (s.heap.push (freshSet w)).IsList l items := ⟨_, b1, rfl, nl, rfl⟩
      have alt : l < s.heap.objs.size := Heap.lt_size hol
      unfold Builtin.«set.__init__» noKeywords Builtin.Frozenset.updateFrom
      generalize hp : pyIter = pI
      wp_walk
      subst hp
      refine wpAny_pyIter_list b5 (wpAny_bind (wpAny_runValue ?_))
      have c1 : A.in1.in1.in1.handled = none := by simp [hh]
      have psz : (s.heap.push (freshSet w)).objs.size = s.heap.objs.size + 1 := Heap.size_push ..
      have c2 : l ≠ (s.heap.push (freshSet w)).objs.size := by rw [psz]; exact Nat.ne_of_lt (Nat.lt_succ_of_lt alt)
      have c3 : s.heap.objs.size ∉ [(s.heap.push (freshSet w)).objs.size, l] := by
        rw [psz]; simp only [List.mem_cons, List.not_mem_nil, or_false, not_or]
        exact ⟨Nat.ne_of_lt (Nat.lt_succ_self _), Nat.ne_of_gt alt⟩
      have c4 : ∀ (i : Nat) (v : Value), items[i]? = some v → ∃ k t, ns[i]? = some k ∧ v = .int k t := by
        intro i v hv
        have lt : i < ns.length := sz ▸ (Array.getElem?_eq_some_iff.mp hv).1
        obtain ⟨t, e⟩ := IntsAre.int_at hi i v (by rw [Array.getElem?_toList]; exact hv)
        exact ⟨ns[i], t, List.getElem?_eq_getElem lt, by rw [e, List.getD_eq_getElem?_getD, List.getElem?_eq_getElem lt]; rfl⟩
      apply set_update_ints ((Walks.list c1 _ l c2 items).toS) s.heap.objs.size c3 ns sz hb c4 (items.size - 0) 0 _ (by omega) (Nat.zero_le _) ⟨⟨_, Heap.get?_push_size _ rfl, rfl, rfl⟩, b5.push _⟩
      · exact ⟨0, Nat.le_refl 0, setR_new_at (Heap.get?_push_of_some _ a1)⟩
      · rintro ⟨h', q2, d', tk', os'⟩ c' hm hc' hS'
        have e1 : q2 = s.gens := hm.gens
        have e2 : d' = s.drawn := hm.drawn
        have e3 : os' = s.os := hm.os
        subst e1 e2 e3
        change wpAny _ _ _ _ _ _
        apply wpAny_pure
        change wpAny _ _ (ret Value.none) _ _ _
        refine wpAny_pure ⟨rfl, h', tk', c', rfl, hS', sz ▸ hc', ?_⟩
        intro b o e
        have lb : b < s.heap.objs.size := Heap.lt_size e
        refine hm.heap b o ?_ (Heap.get?_push_of_some _ (Heap.get?_push_of_some _ e))
        simp only [List.mem_cons, List.not_mem_nil, or_false, not_or]
        exact ⟨Nat.ne_of_lt lb, by rw [psz]; exact Nat.ne_of_lt (Nat.lt_succ_of_lt lb)⟩
    · intro r₂ s₂ hr₂
      match r₂, hr₂ with
      | .error e, hr₂ => exact hr₂
      | .ok (.ret r), ⟨e1, h', tk, c', e2, k1, k2, k3⟩ =>
        subst e1 e2
        repeat (any_goals (first | assumption | wp_step))
        exact h _ _ _ k1 k2 k3
      | .ok .next, hr₂ => exact hr₂.elim
      | .ok .brk, hr₂ => exact hr₂.elim
      | .ok .cont, hr₂ => exact hr₂.elim
  | .ok .next, hr => exact hr.elim
  | .ok .brk, hr => exact hr.elim
  | .ok .cont, hr => exact hr.elim
end
/-- set(xs), a list of ints, few of them -/
def rSetOfL (K : PySem.W.Frag) (w : World) : List V → Hp → VK → Prop := fun vs H Q => ∃ (l : Addr) (ns : List Int), vs = [.ref l] ∧ SqL K H l (ns.map V.int) ∧ ns.length < 64 ∧ ∀ p c, c ≤ ns.length → H p = none → Q (.ref p) (upd H p (SetO w p (fun j => decide (j ∈ ns)) c))
theorem cr_setL {X : Cx} (hc : X.calm = true) : CallR X (.type "set") (rSetOfL X.K X.w) := by
  intro pins s σ H vs us Q I r h
  obtain ⟨l, ns, rfl, hs, h64, q⟩ := h
  rw [Vals.ref1 r]
  obtain ⟨its, rv, pl, hz⟩ := I.list hs
  refine set_of_list ns (I.ok.hd hc) pl.isList (by simpa using RZ.intsAre_vals rv) (by unfold scanBound; omega) ?_
  intro h' tk c R hcl hk
  exact ⟨.ref s.heap.objs.size, _, I.laid (t' := tk) hk (Nat.le_refl _) (setO_new R), rfl, q _ c hcl (I.hok.fresh (Nat.le_refl _))⟩
section
variable {K : PySem.W.Frag} {as : List Sl} {Φ : Φd} {tr : TA} {wd : World}
/-- sorted(set(xs)) -/
theorem ev_sortedSetL (h : EvA K tr as fun ds as1 => ∃ ns : List Int, ds = [.list (ns.map PyData.int)] ∧ ns.length < 64 ∧ ∀ ms : List Int, ms.Pairwise (· < ·) → (∀ k, k ∈ ms ↔ k ∈ ns) → Φ (.list (ms.map PyData.int)) as1) :
    Ev K (tCB (rSortedSet wd) (tCons (tCB (rSetOfL K wd) tr) tNil)) as Φ := fun M F H σ Q e f S q =>
  h M F H σ _ e f S fun ds as1 vs F1 H1 ⟨ns, e1, h64, h1⟩ w1 S1 r1 => by
    subst e1
    obtain ⟨a, xs, rfl, _, hs, rs⟩ := one_lst (K := K) w1.fh r1
    have ex := RpA.ints rs; subst ex
    refine ⟨a, ns, rfl, hs, h64, fun p c hc hp => ⟨p, _, c, rfl, upd_same, by omega, fun ms b pw hm hl hb => ?_⟩⟩
    have w2 := Wd.newo w1.fh hp (SetO wd p (fun j => decide (j ∈ ns)) c)
    have w3 := Wd.new w2.fh hb (.lst (ms.map V.int))
    exact q _ _ _ _ _ (h1 ms pw fun k => by rw [hm k]; exact decide_eq_true_iff) ((w1.trans w2.wx).trans w3.wx) ((S1.wd w2).wd w3) (.lst upd_same (RpA.ofInts ms))
end
end Lp

set_option Elab.async false
set_option linter.all false
set_option maxRecDepth 100000
set_option maxHeartbeats 4000000
/-! Lp: comprehensions that are maps; webs as data. -/
namespace Lp
open PySem PySem.Spec L2
section
variable {K : PySem.W.Frag} {as : List Sl} {Φ : Φd} {te : TE} {tt : TT} {A : AE}
theorem egs_name {i : Nat} {gs : TGs} {ks : List Nat} {x : PyData} {xs : List PyData} {Φ : List Sl → Prop} (h : EvGs K gs ks xs (as.set i (.d x)) Φ) : EvGs K (gCons (gName i) gs) (i :: ks) (x :: xs) as Φ := egs_cons (js := [i]) (eg_name h)
/-- two scalars of one kind -/
def eqSc : PyData → PyData → Option Bool
  | .int i, .int j => some (decide (i = j))
  | .bool i, .bool j => some (decide (i = j))
  | .str i, .str j => some (decide (i = j))
  | _, _ => none
variable {ta tb : TE}
theorem eqSc_sc {x y : PyData} {b : Bool} (h : eqSc x y = some b) : ∃ v u, scD x = some v ∧ scD y = some u ∧ scal v u = true ∧ decide (v = u) = b := by
  cases x <;> cases y <;> simp only [eqSc, reduceCtorEq] at h
  all_goals cases h
  · exact ⟨_, _, rfl, rfl, rfl, by simp⟩
  · exact ⟨_, _, rfl, rfl, rfl, by simp⟩
  · exact ⟨_, _, rfl, rfl, rfl, by simp⟩
theorem ev_eqG (h : Ev K ta as fun x as1 => Ev K tb as1 fun y as2 => ∃ b, eqSc x y = some b ∧ Φ (.bool b) as2) : Ev K (tOp rEq ta tb) as Φ :=
  ev_eqS (h.mono fun x as1 h1 => h1.mono fun y as2 ⟨b, e1, h2⟩ => by
    obtain ⟨v, u, k1, k2, k3, k4⟩ := eqSc_sc e1
    exact ⟨v, u, k1, k2, k3, by rw [k4]; exact h2⟩)
theorem ev_neG (h : Ev K ta as fun x as1 => Ev K tb as1 fun y as2 => ∃ b, eqSc x y = some b ∧ Φ (.bool (!b)) as2) : Ev K (tOp rNe ta tb) as Φ :=
  ev_neS (h.mono fun x as1 h1 => h1.mono fun y as2 ⟨b, e1, h2⟩ => by
    obtain ⟨v, u, k1, k2, k3, k4⟩ := eqSc_sc e1
    exact ⟨v, u, k1, k2, k3, by rw [k4]; exact h2⟩)
theorem x_never (h : False) : Ex K tNever A as := h.elim
/-- [te for g in wi if tt]: what each turn makes, no state changed -/
theorem ev_lcF {α : Type} (enc : α → PyData) (p : α → Bool) (f : α → PyData) {wi : TI} {g : TG} {vs js : List Nat} (hj : ∀ j ∈ js, j ∈ vs) (h : EvI K wi as fun ds as1 => ∃ xs : List α, ds = xs.map enc ∧ xs.length ≤ 100000 ∧
    (∀ x, x ∈ xs → EvG K g js (enc x) (wipeS as1 vs) fun as2 => EvB K tt as2 fun b as3 => b = p x ∧ (p x = true → Ev K te as3 fun d as4 => d = f x ∧ wipeS as4 vs = wipeS as1 vs) ∧ (p x = false → wipeS as3 vs = wipeS as1 vs)) ∧
    Φ (.list ((xs.filter p).map f)) (patch (wipeS as1 vs) as1 vs)) : Ev K (tLc wi g tt te vs) as Φ := by
  refine ev_lc hj (h.mono ?_)
  rintro ds as1 ⟨xs, rfl, hl, hs, hd⟩
  refine ⟨by simpa using hl, fun i acc a => a = wipeS as1 vs ∧ acc = ((xs.take i).filter p).map f, ⟨rfl, rfl⟩, ?_, ?_⟩
  · rintro i d acc a hi ⟨rfl, rfl⟩
    rw [List.getElem?_map] at hi
    obtain ⟨x, hx, rfl⟩ := Option.map_eq_some_iff.mp hi
    have hxm : x ∈ xs := List.mem_of_getElem? hx
    have ht : xs.take (i + 1) = xs.take i ++ [x] := by rw [List.take_add_one, hx]; rfl
    refine (hs x hxm).mono fun as2 h2 => h2.mono ?_
    rintro b as3 ⟨rfl, h3, h4⟩
    refine ⟨fun hb => (h3 hb).mono ?_, fun hb => ⟨h4 hb, ?_⟩⟩
    · rintro d as4 ⟨rfl, h5⟩
      refine ⟨h5, ?_⟩
      rw [ht, List.filter_append, List.map_append]
      simp [hb]
    · rw [ht, List.filter_append, List.map_append]
      simp [hb]
  · rintro acc a ⟨rfl, rfl⟩
    rw [List.length_map, List.take_length]
    exact hd
theorem ev_lcM {α : Type} (enc : α → PyData) (f : α → PyData) {wi : TI} {g : TG} {vs js : List Nat} (hj : ∀ j ∈ js, j ∈ vs) (h : EvI K wi as fun ds as1 => ∃ xs : List α, ds = xs.map enc ∧ xs.length ≤ 100000 ∧
    (∀ x, x ∈ xs → EvG K g js (enc x) (wipeS as1 vs) fun as2 => Ev K te as2 fun d as4 => d = f x ∧ wipeS as4 vs = wipeS as1 vs) ∧
    Φ (.list (xs.map f)) (patch (wipeS as1 vs) as1 vs)) : Ev K (tLc wi g tYes te vs) as Φ := by
  refine ev_lcF enc (fun _ => true) f hj (h.mono ?_)
  rintro ds as1 ⟨xs, h1, h2, h3, h4⟩
  refine ⟨xs, h1, h2, fun x hx => (h3 x hx).mono fun as2 h5 => eb_yes ⟨rfl, fun _ => h5, nofun⟩, ?_⟩
  rw [List.filter_eq_self.mpr (fun _ _ => rfl)]
  exact h4
end
section
variable {K : PySem.W.Frag} {as : List Sl} {te ta tb : TE} {tr : TA} {tt : TT} {t u : TS} {nx : List Sl → Prop} {rt : PyData → List Sl → Prop} {bk ct : List Sl → Prop} {rn : OD → List Sl → Prop} {rm : List (Key × V) → List Sl → Prop}
theorem y_next (h : nx as) : Ex K tNext ⟨nx, rt, bk, ct, rn, rm⟩ as := x_next h
theorem y_seq (h : Ex K t ⟨fun as1 => Ex K u ⟨nx, rt, bk, ct, rn, rm⟩ as1, rt, bk, ct, rn, rm⟩ as) : Ex K (tSeq t u) ⟨nx, rt, bk, ct, rn, rm⟩ as := x_seq h
theorem y_ret (h : Ev K te as rt) : Ex K (tRet te) ⟨nx, rt, bk, ct, rn, rm⟩ as := x_ret h
theorem y_retN (h : rt .none as) : Ex K tRetN ⟨nx, rt, bk, ct, rn, rm⟩ as := x_retN h
theorem y_retO (h : EvN K te as rn) : Ex K (tRet te) ⟨nx, rt, bk, ct, rn, rm⟩ as := x_retO h
theorem y_retM (h : EvM K te as rm) : Ex K (tRet te) ⟨nx, rt, bk, ct, rn, rm⟩ as := x_retM h
theorem y_break (h : bk as) : Ex K tBreak ⟨nx, rt, bk, ct, rn, rm⟩ as := x_break h
theorem y_cont (h : ct as) : Ex K tCont ⟨nx, rt, bk, ct, rn, rm⟩ as := x_cont h
theorem y_asg {g : TG} {js : List Nat} (h : Ev K te as fun d as1 => EvG K g js d as1 nx) : Ex K (tAsg te g) ⟨nx, rt, bk, ct, rn, rm⟩ as := x_asg h
theorem y_set {i : Nat} (h : Ev K te as fun d as1 => nx (as1.set i (.d d))) : Ex K (tAsg te (gName i)) ⟨nx, rt, bk, ct, rn, rm⟩ as := x_set h
theorem y_setN {i : Nat} (h : EvN K te as fun u as1 => ∀ a, nx (as1.set i (.o a u))) : Ex K (tAsg te (gName i)) ⟨nx, rt, bk, ct, rn, rm⟩ as := x_setN h
theorem y_setM {i : Nat} (h : EvM K te as fun kvs as1 => nx (as1.set i (.m kvs))) : Ex K (tAsg te (gName i)) ⟨nx, rt, bk, ct, rn, rm⟩ as := x_setM h
theorem y_drop (h : Ev K te as fun _ as1 => nx as1) : Ex K (tDrop te) ⟨nx, rt, bk, ct, rn, rm⟩ as := x_drop h
theorem y_par {i j : Nat} (h : EvA K tr as fun ds as1 => ∃ x y, ds = [x, y] ∧ nx ((as1.set i (.d x)).set j (.d y))) : Ex K (tPar i j tr) ⟨nx, rt, bk, ct, rn, rm⟩ as := x_par h
theorem y_parNN {i j : Nat} (hij : i ≠ j) (h : EvN K ta as fun u as1 => EvN K tb as1 fun w as2 => ∀ a b, nx ((as2.set i (.o a u)).set j (.o b w))) : Ex K (tPar i j (tCons ta (tCons tb tNil))) ⟨nx, rt, bk, ct, rn, rm⟩ as := x_parNN hij h
theorem y_parND {i j : Nat} (hij : i ≠ j) (h : EvN K ta as fun u as1 => Ev K tb as1 fun y as2 => ∀ a, nx ((as2.set i (.o a u)).set j (.d y))) : Ex K (tPar i j (tCons ta (tCons tb tNil))) ⟨nx, rt, bk, ct, rn, rm⟩ as := x_parND hij h
theorem y_parDN {i j : Nat} (h : Ev K ta as fun x as1 => EvN K tb as1 fun u as2 => ∀ b, nx ((as2.set i (.d x)).set j (.o b u))) : Ex K (tPar i j (tCons ta (tCons tb tNil))) ⟨nx, rt, bk, ct, rn, rm⟩ as := x_parDN h
theorem y_for {wi : TI} {g : TG} {js : List Nat} (h : EvI K wi as fun ds as1 => ∃ I : Nat → List Sl → Prop, I 0 as1 ∧
    (∀ i x as', ds[i]? = some x → I i as' → EvG K g js x as' fun as2 => Ex K t ⟨I (i + 1), rt, nx, I (i + 1), rn, rm⟩ as2) ∧ ∀ as', I ds.length as' → nx as') : Ex K (tFor wi g t) ⟨nx, rt, bk, ct, rn, rm⟩ as := x_for h
theorem y_while (I : Nat → List Sl → Prop) (m0 : Nat) (h0 : I m0 as)
    (hs : ∀ m as', I m as' → EvB K tt as' fun b as1 => (b = true → Ex K t ⟨fun a => ∃ m', m' < m ∧ I m' a, rt, nx, fun a => ∃ m', m' < m ∧ I m' a, rn, rm⟩ as1) ∧ (b = false → nx as1)) : Ex K (tWhile tt t) ⟨nx, rt, bk, ct, rn, rm⟩ as := x_while I m0 h0 hs
theorem y_app {j : Nat} {a : Addr} {ds0 : List PyData} (h0 : as[j]? = some (.o a (.lst ds0))) (h : Ev K te as fun x as1 => ∃ ds, as1[j]? = some (.o a (.lst ds)) ∧ ds.length < 100000 ∧ nx (as1.set j (.o a (.lst (ds ++ [x]))))) :
    Ex K (tDrop (tBM K "list" rAppend (tVar j) (tCons te tNil))) ⟨nx, rt, bk, ct, rn, rm⟩ as := x_app h0 h
theorem y_ext {j : Nat} {a : Addr} {ds0 : List PyData} (h0 : as[j]? = some (.o a (.lst ds0))) (h : Ev K te as fun x as1 => ∃ ds es, x = .list es ∧ as1[j]? = some (.o a (.lst ds)) ∧ ds.length + es.length ≤ 100000 ∧ nx (as1.set j (.o a (.lst (ds ++ es))))) :
    Ex K (tDrop (tBM K "list" rExtend (tVar j) (tCons te tNil))) ⟨nx, rt, bk, ct, rn, rm⟩ as := x_ext h0 h
theorem y_seti {j : Nat} {a : Addr} {ds0 : List PyData} (h : Ev K te as fun x as1 => Ev K ta as1 fun y as2 => ∃ ds i, y = .int ((i : Nat) : Int) ∧ as2[j]? = some (.o a (.lst ds)) ∧ i < ds.length ∧ nx (as2.set j (.o a (.lst (ds.set i x))))) (hj : as[j]? = some (.o a (.lst ds0)) := by rfl) : Ex K (tAsg te (gSub (tVar j) ta rSetL)) ⟨nx, rt, bk, ct, rn, rm⟩ as := x_seti h hj
theorem y_dput {j : Nat} {a : Addr} {kvs0 : List (Key × V)} (hj : as[j]? = some (.o a (.dct kvs0))) (h : Ev K te as fun x as1 => ∃ v, scD x = some v ∧ Ev K ta as1 fun y as2 => ∃ k kvs, y = kD k ∧ as2[j]? = some (.o a (.dct kvs)) ∧ kvs.length < 100000 ∧ nx (as2.set j (.o a (.dct (putK kvs k v))))) :
    Ex K (sDPut (tVar j) ta te) ⟨nx, rt, bk, ct, rn, rm⟩ as := x_dput hj h
theorem y_ddel {j : Nat} {a : Addr} {kvs0 : List (Key × V)} (hj : as[j]? = some (.o a (.dct kvs0))) (h : Ev K ta as fun y as2 => ∃ k kvs, y = kD k ∧ as2[j]? = some (.o a (.dct kvs)) ∧ (valV kvs k).isSome = true ∧ nx (as2.set j (.o a (.dct (dropK kvs k))))) :
    Ex K (sDDel (tVar j) ta) ⟨nx, rt, bk, ct, rn, rm⟩ as := x_ddel hj h
end
section
variable {K : PySem.W.Frag} {as : List Sl} {Φ : Φd} {ta te : TE} {t : TS} {A : AE}
theorem ev_oixC {i : Int} {j : Nat} {a : Addr} {ds : List PyData} {d : PyData} (hj : as[j]? = some (.o a (.lst ds))) (hd : atI ds i = some d) (hs : (scD d).isSome = true) (h : Φ d as) : Ev K (tOp (rIxL K) (tVar j) (tC (.int i))) as Φ := by
  refine ev_peek (ev_ixL (ev_var (x := .list ds) ?_ (ev_int ⟨ds, i, d, rfl, rfl, hd, hs, h⟩)))
  unfold peekS
  rw [List.getElem?_map, hj]; rfl
theorem ev_olen {j : Nat} {a : Addr} {ds : List PyData} (hj : as[j]? = some (.o a (.lst ds))) (h : Φ (.int ds.length) as) : Ev K (tCB (rLenS K) (tCons (tVar j) tNil)) as Φ := by
  refine ev_peek (ev_len (ea_cons (ev_var (x := .list ds) ?_ (ea_nil ⟨_, _, rfl, rfl, rfl, h⟩))))
  unfold peekS
  rw [List.getElem?_map, hj]; rfl
theorem en_pot {Φn : OD → List Sl → Prop} (h : EvN K te as fun u as1 => ∃ o m n c, u = .lst [.int o, .int m, .int n] ∧ PotI c o m n ∧ Φn (.pot c) as1) : EvN K te as Φn := fun M F H σ Q e f S q =>
  h M F H σ Q e f S fun u as1 a F1 H1 ⟨o, m, n, c, e1, h1, h2⟩ w S1 hM hF ho hn => by
    subst e1
    obtain ⟨xs, hx, rx⟩ := ho
    have : xs = [.int o, .int m, .int n] := RpA.ints (ns := [o, m, n]) rx
    subst this
    exact q _ _ a F1 H1 h2 w S1 hM hF ⟨_, hx, o, m, n, rfl, h1⟩ hn
theorem x_close {j : Nat} {p : Addr} {c : Nat} {o m n : Int} (hj : as[j]? = some (.o p (.lst [.int o, .int m, .int n]))) (hp : PotI c o m n) (h : Ex K t A (as.set j (.o p (.pot c)))) : Ex K t A as := fun M F H σ D e f S B => by
  obtain ⟨hσ, hM, hF, xs, hx, rx⟩ := S.geto hj
  have : xs = [.int o, .int m, .int n] := RpA.ints (ns := [o, m, n]) rx
  subst this
  refine h M F H σ D e f ⟨by rw [List.length_set, S.len], fun i u s g1 g2 => ?_, fun i k b x y g1 g2 => ?_⟩ B
  · rcases set_get g2 with ⟨e1, rfl⟩ | ⟨e1, g2⟩
    · subst e1; rw [hσ] at g1; cases g1
      exact ⟨rfl, hM, hF, _, hx, o, m, n, rfl, hp⟩
    · exact S.at_ i u s g1 g2
  · have e1 : ∃ x', as[i]? = some (.o b x') := by
      rcases set_get g1 with ⟨e3, g1⟩ | ⟨_, g1⟩
      · cases g1; subst e3; exact ⟨_, hj⟩
      · exact ⟨_, g1⟩
    have e2 : ∃ x', as[k]? = some (.o b x') := by
      rcases set_get g2 with ⟨e3, g2⟩ | ⟨_, g2⟩
      · cases g2; subst e3; exact ⟨_, hj⟩
      · exact ⟨_, g2⟩
    obtain ⟨_, e1⟩ := e1
    obtain ⟨_, e2⟩ := e2
    exact S.dis i k b _ _ e1 e2
end
/-! ### webs -/
abbrev nD (n : Nat) : PyData := .int (n : Int)
def tD (t : Nat × Nat) : PyData := .tuple [.int (t.1 : Int), .int (t.2 : Int)]
structure Web where
  n : Nat
  ts : List (Nat × Nat)
def webD (W : Web) : PyData := .tuple [.int (W.n : Int), .tuple (W.ts.map tD)]
def ltP (s t : Nat × Nat) : Prop := s.1 < t.1 ∨ (s.1 = t.1 ∧ s.2 < t.2)
instance (s t : Nat × Nat) : Decidable (ltP s t) := inferInstanceAs (Decidable (_ ∨ _))
structure Web.Ok (W : Web) : Prop where
  lo : 1 ≤ W.n
  hi : W.n ≤ 40
  tie : ∀ t ∈ W.ts, t.1 < t.2 ∧ t.2 < W.n
  asc : W.ts.Pairwise ltP
/-- are tied -/
def Web.adj (W : Web) (x y : Nat) : Bool := decide ((x, y) ∈ W.ts) || decide ((y, x) ∈ W.ts)
def Web.nb (W : Web) (x : Nat) : List Nat := (List.range W.n).filter (W.adj x)
def nbD (xs : List Nat) : PyData := .list (xs.map nD)
def nearD (W : Web) : PyData := .list ((List.range W.n).map fun x => nbD (W.nb x))
theorem asc_lt {n : Nat} : ∀ (ts : List (Nat × Nat)), (∀ t ∈ ts, t.1 < t.2 ∧ t.2 < n) → ts.Pairwise ltP → ts.length ≤ n * n := by
  intro ts h p
  have inj : (ts.map fun t => t.1 * n + t.2).Nodup := by
    refine List.pairwise_map.mpr (p.imp_of_mem fun {a b} ha hb hab => ?_)
    have h1 := h a ha; have h2 := h b hb
    intro e
    rcases hab with hab | ⟨e1, hab⟩
    · have : (a.1 + 1) * n ≤ b.1 * n := Nat.mul_le_mul_right n hab
      rw [Nat.add_mul] at this
      omega
    · rw [e1] at e; omega
  have sub : ∀ x ∈ ts.map fun t => t.1 * n + t.2, x ∈ List.range (n * n) := by
    intro x hx
    obtain ⟨t, ht, rfl⟩ := List.mem_map.mp hx
    have h1 := h t ht
    have : (t.1 + 1) * n ≤ n * n := Nat.mul_le_mul_right n (by omega)
    rw [Nat.add_mul] at this
    exact List.mem_range.mpr (by omega)
  have := List.Nodup.length_le_of_subset inj (l₂ := List.range (n * n)) fun x hx => sub x hx
  simpa using this
theorem Web.Ok.len {W : Web} (h : W.Ok) : W.ts.length ≤ 1600 := by
  have h1 := asc_lt W.ts h.tie h.asc
  have h2 : W.n * W.n ≤ 40 * 40 := Nat.mul_le_mul h.hi h.hi
  omega
end Lp

set_option Elab.async false
set_option linter.all false
set_option maxRecDepth 100000
set_option maxHeartbeats 4000000
/-! Lp: shapes of data, equality of data. -/
namespace Lp
open PySem PySem.Spec L2
def Shp (k : Nat) (d : PyData) : Prop := d.canLay0 = true ∧ d.depth ≤ k
theorem Shp.int (i : Int) : Shp 1 (.int i) := ⟨rfl, by unfold PyData.depth; omega⟩
theorem Shp.bool (i : Bool) : Shp 1 (.bool i) := ⟨rfl, by unfold PyData.depth; omega⟩
theorem Shp.none : Shp 1 .none := ⟨rfl, by unfold PyData.depth; omega⟩
theorem shp_all {k : Nat} : ∀ {xs : List PyData}, (∀ x ∈ xs, Shp k x) → PyData.canLayAll0 xs = true ∧ PyData.depthAll xs ≤ k
  | [], _ => ⟨rfl, by unfold PyData.depthAll; omega⟩
  | x :: xs, h => by
    have h1 := h x (by simp)
    have h2 := shp_all (k := k) (xs := xs) fun y hy => h y (List.mem_cons_of_mem _ hy)
    unfold PyData.canLayAll0 PyData.depthAll
    refine ⟨by rw [h1.1, h2.1]; rfl, ?_⟩
    have := h1.2; have := h2.2
    omega
theorem Shp.list {k : Nat} {xs : List PyData} (h : ∀ x ∈ xs, Shp k x) : Shp (k + 1) (.list xs) := by
  have := shp_all h
  unfold Shp PyData.canLay0 PyData.depth
  exact ⟨this.1, by have := this.2; omega⟩
theorem Shp.tuple {k : Nat} {xs : List PyData} (h : ∀ x ∈ xs, Shp k x) : Shp (k + 1) (.tuple xs) := by
  have := shp_all h
  unfold Shp PyData.canLay0 PyData.depth
  exact ⟨this.1, by have := this.2; omega⟩
theorem Shp.mono {k m : Nat} {d : PyData} (h : Shp k d) (hm : k ≤ m) : Shp m d := ⟨h.1, Nat.le_trans h.2 hm⟩
theorem Shp.ok {k : Nat} {d : PyData} (h : Shp k d) (hk : k ≤ 64 := by omega) : SeqAt.shaped d = true := by
  unfold SeqAt.shaped
  rw [h.1, decide_eq_true (Nat.le_trans h.2 hk)]; rfl
theorem shp_nats (xs : List Nat) : ∀ x ∈ xs.map nD, Shp 1 x := fun x hx => by
  obtain ⟨n, _, rfl⟩ := List.mem_map.mp hx; exact Shp.int _
theorem shp_nbD (xs : List Nat) : Shp 2 (nbD xs) := Shp.list (shp_nats xs)
theorem shp_tD (t : Nat × Nat) : Shp 2 (tD t) := Shp.tuple fun x hx => by
  simp only [List.mem_cons, List.not_mem_nil, or_false] at hx
  rcases hx with rfl | rfl <;> exact Shp.int _
theorem shp_ties (ts : List (Nat × Nat)) : ∀ x ∈ ts.map tD, Shp 2 x := fun x hx => by
  obtain ⟨n, _, rfl⟩ := List.mem_map.mp hx; exact shp_tD _
theorem shp_webD (W : Web) : Shp 4 (webD W) := Shp.tuple fun x hx => by
  simp only [List.mem_cons, List.not_mem_nil, or_false] at hx
  rcases hx with rfl | rfl
  · exact (Shp.int _).mono (by omega)
  · exact Shp.tuple (shp_ties W.ts)
theorem eqv_list (xs ys : List PyData) : PyData.eqv (.list xs) (.list ys) = PyData.eqvAll xs ys := by rw [PyData.eqv]
theorem eqv_tuple (xs ys : List PyData) : PyData.eqv (.tuple xs) (.tuple ys) = PyData.eqvAll xs ys := by rw [PyData.eqv]
theorem eqv_map {α : Type} {f : α → PyData} (h : ∀ a b, PyData.eqv (f a) (f b) = true ↔ a = b) : ∀ xs ys : List α, PyData.eqvAll (xs.map f) (ys.map f) = true ↔ xs = ys
  | [], [] => by simp [PyData.eqvAll]
  | [], y :: ys => by simp [PyData.eqvAll]
  | x :: xs, [] => by simp [PyData.eqvAll]
  | x :: xs, y :: ys => by simp [PyData.eqvAll, h, eqv_map h xs ys]
theorem eqv_int (i j : Int) : PyData.eqv (.int i) (.int j) = true ↔ i = j := by
  rw [PyData.eqv]; exact beq_iff_eq
theorem eqv_nD (i j : Nat) : PyData.eqv (nD i) (nD j) = true ↔ i = j := by
  rw [eqv_int]; omega
theorem eqv_tD (s t : Nat × Nat) : PyData.eqv (tD s) (tD t) = true ↔ s = t := by
  unfold tD
  rw [eqv_tuple]
  simp only [PyData.eqvAll, Bool.and_true, Bool.and_eq_true, eqv_int]
  constructor
  · rintro ⟨h1, h2⟩; exact Prod.ext (by omega) (by omega)
  · rintro rfl; exact ⟨rfl, rfl⟩
theorem eqv_webD (V W : Web) : PyData.eqv (webD V) (webD W) = true ↔ V = W := by
  unfold webD
  rw [eqv_tuple]
  simp only [PyData.eqvAll, Bool.and_true, Bool.and_eq_true, eqv_int, eqv_tuple, eqv_map eqv_tD]
  constructor
  · rintro ⟨h1, h2⟩
    cases V; cases W
    simp only at h1 h2
    have h3 := Int.ofNat.inj h1
    subst h2 h3
    rfl
  · rintro rfl; exact ⟨rfl, rfl⟩
end Lp

set_option Elab.async false
set_option linter.all false
set_option maxRecDepth 100000
set_option maxHeartbeats 4000000
/-! Lp: comprehensions of two fors. -/
namespace Lp
open PySem PySem.Spec L2
section
variable {K : PySem.W.Frag} {M : Addr → Prop} {F H F' H' : Hp} {as : List Sl} {Φ : Φd} {te : TE}
/-- a walk's turns by a word of the turn and the heap -/
theorem turns_it {J : It} {n : Nat} {G : Hp → Prop} {Y : Nat → Hp → V → Hp → Prop} (wk : Walk J n G Y) {H0 : Hp} {Fin : Hp → Prop} {B : Nat → (Hp → Prop) → V → Hp → Prop} (Pv : Nat → Hp → Prop)
    (h0 : Pv 0 H0) (hG : ∀ i H, i ≤ n → Pv i H → G H) (hs : ∀ i x H H', i < n → Pv i H → Y i H x H' → B i (Pv (i + 1)) x H') (hd : ∀ H, Pv n H → Fin H) :
    ∃ W : Nat → Nat → Hp → Prop, (∃ m, W 0 m H0) ∧ ∀ (i m : Nat) (H : Hp), W i m H → J.stop i H ∧ Fin H ∨ J.go i H ∧ ∃ Nx : Hp → Prop, (∀ H', Nx H' → ∃ m', m' < m ∧ W (i + 1) m' H') ∧ ∀ x H', J.yld i H x H' → B i Nx x H' := by
  refine ⟨fun i m H => i ≤ n ∧ m = n - i ∧ Pv i H, ⟨n, Nat.zero_le _, rfl, h0⟩, ?_⟩
  rintro i m H ⟨hi, rfl, hp⟩
  by_cases e : i = n
  · subst e
    exact .inl ⟨wk.stops H (hG _ H hi hp), hd H hp⟩
  · have hlt : i < n := by omega
    refine .inr ⟨wk.goes i H hlt (hG i H hi hp), Pv (i + 1), fun H' h => ⟨n - (i + 1), by omega, by omega, rfl, h⟩, fun x H' hy => hs i x H H' hlt hp (wk.yields i H x H' hlt (hG i H hi hp) hy)⟩
theorem wipe_in {σ : L2.St} {us vs : List Nat} (h : ∀ j ∈ us, j ∈ vs) : L2.wipe (L2.wipe σ us) vs = L2.wipe σ vs := by
  refine wipe_same (js := us) (wipe_length σ us) (fun k hk => ?_) h
  have gen : ∀ (ws : List Nat) (τ : L2.St), k ∉ ws → (L2.wipe τ ws)[k]? = τ[k]? := by
    intro ws τ h
    induction ws with
    | nil => rfl
    | cons w ws ih =>
      unfold L2.wipe
      rw [List.getElem?_set_ne (fun z => h (by simp [z]))]
      exact ih fun z => h (List.mem_cons_of_mem _ z)
  exact gen us σ hk
theorem en_lc2M {Φn : OD → List Sl → Prop} {α β : Type} (enc : α → PyData) (enc' : β → PyData) (L : α → List β) (f : α → β → PyData) {wi wi1 : TI} {g g1 : TG} {vs vs1 js js1 : List Nat} (hj : ∀ j ∈ js, j ∈ vs) (hj1 : ∀ j ∈ js1, j ∈ vs1) (hv : ∀ j ∈ vs1, j ∈ vs)
    (h : EvI K wi as fun ds as1 => ∃ xs : List α, ds = xs.map enc ∧ (xs.flatMap fun x => (L x).map (f x)).length ≤ 90000 ∧
      (∀ x, x ∈ xs → EvG K g js (enc x) (wipeS as1 vs) fun as2 => EvI K wi1 as2 fun es as3 => es = (L x).map enc' ∧ wipeS (wipeS as3 vs1) vs = wipeS as1 vs ∧
        ∀ y, y ∈ L x → EvG K g1 js1 (enc' y) (wipeS as3 vs1) fun as4 => Ev K te as4 fun d as5 => d = f x y ∧ wipeS as5 vs1 = wipeS as3 vs1) ∧
      Φn (.lst (xs.flatMap fun x => (L x).map (f x))) (patch (wipeS as1 vs) as1 vs)) : EvN K (tLc2 wi g tYes wi1 g1 tYes te vs vs1) as Φn := fun M F H σ Q e fr S q =>
  h M F H σ _ e fr S fun ds as1 F1 H1 J ⟨xs, e1, hz, hs, hd⟩ w1 S1 ⟨G, Y, wk, hG, hY⟩ D hD => by
    subst e1
    have hM : M D := w1.fr fr D hD
    have fD : F1 D = none := same_none w1.fh hD
    let M' : Addr → Prop := fun a => M a ∧ a ≠ D
    have nD : ¬ M' D := fun z => z.2 rfl
    have sub : ∀ {σ' : L2.St} {F2 H2 : Hp} {cs : List Sl}, Sd K M' F2 H2 σ' cs → Sd K M F2 H2 σ' cs := fun S => ⟨S.len, fun i o s h1 h2 => by
      have z := S.at_ i o s h1 h2
      cases s with
      | o b v => exact ⟨z.1, z.2.1.1, z.2.2⟩
      | e => exact z
      | d x => exact z
      | s ns => exact z
      | m kvs => exact z
      | mt kvs => exact z, S.dis⟩
    have sup : ∀ {σ' : L2.St} {F2 H2 : Hp} {cs : List Sl}, (∀ (j : Nat) w, cs[j]? ≠ some (.o D w)) → Sd K M F2 H2 σ' cs → Sd K M' F2 H2 σ' cs := fun hn S => ⟨S.len, fun i o s h1 h2 => by
      have z := S.at_ i o s h1 h2
      cases s with
      | o b v => exact ⟨z.1, ⟨z.2.1, fun q => hn i v (by rw [← q]; exact h2)⟩, z.2.2⟩
      | e => exact z
      | d x => exact z
      | s ns => exact z
      | m kvs => exact z
      | mt kvs => exact z, S.dis⟩
    let acc : Nat → List PyData := fun i => (xs.take i).flatMap fun x => (L x).map (f x)
    have accl : ∀ i, (acc i).length ≤ 90000 := fun i => by
      have h1 : xs.flatMap (fun x => (L x).map (f x)) = acc i ++ (xs.drop i).flatMap fun x => (L x).map (f x) := by
        show _ = (xs.take i).flatMap _ ++ _
        rw [← List.flatMap_append, List.take_append_drop]
      rw [h1, List.length_append] at hz; omega
    rw [List.length_map] at wk
    refine turns_it (B := fun i Nx x H' => g x (L2.wipe σ vs) H' fun σ2 H2 => L2.wipe σ2 vs = L2.wipe σ vs ∧ tYes σ2 H2 fun b H3 => if b = true then wi1 σ2 H3 fun J1 H4 => ∃ W1 : Nat → Nat → Hp → Prop, (∃ m, W1 0 m H4) ∧ ∀ (j k : Nat) (H : Hp), W1 j k H → J1.stop j H ∧ Nx H ∨ J1.go j H ∧
        ∃ Nx1 : Hp → Prop, (∀ H', Nx1 H' → ∃ k', k' < k ∧ W1 (j + 1) k' H') ∧ ∀ x H', J1.yld j H x H' → g1 x (L2.wipe σ2 vs1) H' fun σ3 H5 => L2.wipe σ3 vs1 = L2.wipe σ2 vs1 ∧ tYes σ3 H5 fun b H6 => if b = true then te σ3 H6 fun y H7 => ∃ acc, H7 D = some (.lst acc) ∧ acc.length < sizeLine ∧ Nx1 (upd H7 D (.lst (acc ++ [y]))) else Nx1 H6 else Nx H3)
      wk (fun i H2 => ∃ F2 vs', Wx M F1 H1 F2 H2 ∧ Sd K M' F2 H2 (L2.wipe σ vs) (wipeS as1 vs) ∧ F2 D = none ∧ H2 D = some (.lst vs') ∧ RpA F2 vs' (acc i)) ?_ (fun i H2 _ ⟨F2, vs', w2, _⟩ => hG H2 (w2.ff.trans w2.fh)) (fun i x H2 H3 hi ⟨F2, vs', w2, S2, f2, hD2, r2⟩ y => ?_) ?_
    · have w2 := Wd.newo w1.fh hD (.lst [])
      exact ⟨F1, [], w2.wx, sup ((S1.wipe vs).fresh hD) ((S1.wipe vs).wd w2), fD, upd_same, .nil⟩
    · have y := y
      obtain ⟨d, F3, hd1, w3, r3⟩ := hY i H2 x H3 F2 (by simpa using hi) w2.ff w2.fh y
      rw [List.getElem?_map] at hd1
      obtain ⟨x0, hx0, rfl⟩ := Option.map_eq_some_iff.mp hd1
      have hx0m : x0 ∈ xs := List.mem_of_getElem? hx0
      have htk : acc (i + 1) = acc i ++ (L x0).map (f x0) := by
        show (xs.take (i + 1)).flatMap _ = (xs.take i).flatMap _ ++ _
        rw [List.take_add_one, hx0, List.flatMap_append]
        simp
      have f2' : Fr M' H2 := fun a ha => ⟨w2.fr (w1.fr fr) a ha, fun z => by rw [z, hD2] at ha; cases ha⟩
      have w3' : Wx M' F2 H2 F3 H3 := w3.wx
      refine hs x0 hx0m M' F3 H3 _ x _ w3.fh (w3'.fr f2') (S2.wd w3) r3 fun as2 σ2 h2 S4 l4 k4 => ⟨by rw [wipe_same l4 k4 hj, wipe_wipe], ?_⟩
      have ew : L2.wipe σ2 vs = L2.wipe σ vs := by rw [wipe_same l4 k4 hj, wipe_wipe]
      simp only [tYes, ↓reduceIte]
      refine h2 M' F3 H3 σ2 _ w3.fh (w3'.fr f2') S4 fun es as3 F4 H4 J1 ⟨he, hw, h3⟩ w4 S5 ⟨G1, Y1, wk1, hG1, hY1⟩ => ?_
      subst he
      rw [List.length_map] at wk1
      have w24 : Wx M' F2 H2 F4 H4 := w3'.trans w4
      have key : ∀ {F5 H5 : Hp}, Wx M' F2 H2 F5 H5 → Wx M F1 H1 F5 H5 ∧ F5 D = none ∧ H5 D = some (.lst vs') ∧ RpA F5 vs' (acc i) := fun {F5 H5} w => by
        refine ⟨⟨w2.ff.trans w.ff, w.fh, fun a o m hh => ?_, fun a m hh ff => ?_⟩, w.own D nD (by rw [hD2]; exact fun z => nomatch z) f2, w.hh D _ nD hD2, RpA.mono w.ff _ r2⟩
        · exact w.hh a o (fun z => m z.1) (w2.hh a o m hh)
        · exact w.own a (fun z => m z.1) (fun z => by
            cases q : H1 a with
            | none => exact hh q
            | some o => rw [w2.hh a o m q] at z; cases z) (w2.own a m hh ff)
      have back : ∀ {F5 H5 : Hp}, Sd K M' F5 H5 (L2.wipe σ2 vs1) (wipeS as3 vs1) → Sd K M' F5 H5 (L2.wipe σ vs) (wipeS as1 vs) := fun S => by
        have := S.wipe vs
        rw [wipe_in hv, ew, hw] at this
        exact this
      refine turns_it (B := fun j Nx1 x H' => g1 x (L2.wipe σ2 vs1) H' fun σ3 H5 => L2.wipe σ3 vs1 = L2.wipe σ2 vs1 ∧ tYes σ3 H5 fun b H6 => if b = true then te σ3 H6 fun y H7 => ∃ acc, H7 D = some (.lst acc) ∧ acc.length < sizeLine ∧ Nx1 (upd H7 D (.lst (acc ++ [y]))) else Nx1 H6)
        wk1 (fun j H5 => ∃ F5 ws, Wx M F1 H1 F5 H5 ∧ Same F4 F5 ∧ Fr M' H5 ∧ Sd K M' F5 H5 (L2.wipe σ2 vs1) (wipeS as3 vs1) ∧ F5 D = none ∧ H5 D = some (.lst ws) ∧ RpA F5 ws (acc i ++ ((L x0).take j).map (f x0))) ?_ (fun j H5 _ ⟨F5, ws, w5, s5, _⟩ => hG1 H5 (s5.trans w5.fh)) (fun j z H5 H6 hjl ⟨F5, ws, w5, s5, fr5, S6, f5, hD5, r5⟩ y1 => ?_) ?_
      · obtain ⟨k1, k2, k3, k5⟩ := key w24
        exact ⟨F4, vs', k1, Same.refl _, w24.fr f2', S5.wipe vs1, k2, k3, by simpa using k5⟩
      · obtain ⟨d, F6, hd2, w6, r6⟩ := hY1 j H5 z H6 F5 (by simpa using hjl) s5 w5.fh y1
        rw [List.getElem?_map] at hd2
        obtain ⟨y0, hy0, rfl⟩ := Option.map_eq_some_iff.mp hd2
        have hy0m : y0 ∈ L x0 := List.mem_of_getElem? hy0
        have htk1 : ((L x0).take (j + 1)).map (f x0) = ((L x0).take j).map (f x0) ++ [f x0 y0] := by
          rw [List.take_add_one, hy0, List.map_append]; rfl
        have w6' : Wx M' F5 H5 F6 H6 := w6.wx
        refine h3 y0 hy0m M' F6 H6 _ z _ w6.fh (w6'.fr fr5) (S6.wd w6) r6 fun as4 σ3 h4 S7 l7 k7 => ⟨by rw [wipe_same l7 k7 hj1, wipe_wipe], ?_⟩
        have ew1 : L2.wipe σ3 vs1 = L2.wipe σ2 vs1 := by rw [wipe_same l7 k7 hj1, wipe_wipe]
        simp only [tYes, ↓reduceIte]
        refine h4 M' F6 H6 σ3 _ w6.fh (w6'.fr fr5) S7 fun d as5 v F7 H7 ⟨e7, hw7⟩ w7 S8 r7 => ?_
        subst e7
        have w57 : Wx M' F5 H5 F7 H7 := w6'.trans w7
        have hD7 : H7 D = some (.lst ws) := w57.hh D _ nD hD5
        have f7 : F7 D = none := w57.own D nD (by rw [hD5]; exact fun z => nomatch z) f5
        have k1 : Wx M F1 H1 F7 H7 := ⟨w5.ff.trans w57.ff, w57.fh, fun a o m hh => w57.hh a o (fun z => m z.1) (w5.hh a o m hh), fun a m hh ff => w57.own a (fun z => m z.1) (fun z => by
            cases q : H1 a with
            | none => exact hh q
            | some o => rw [w5.hh a o m q] at z; cases z) (w5.own a m hh ff)⟩
        have hlen : (acc i).length + (L x0).length ≤ 90000 := by
          have := accl (i + 1)
          rw [htk, List.length_append, List.length_map] at this
          exact this
        refine ⟨ws, hD7, ?_, F7, ws ++ [v], ⟨k1.ff, fun b u q => ?_, fun b u m q => ?_, k1.own⟩, s5.trans w57.ff, fun a ha => ?_, ?_, f7, upd_same, ?_⟩
        · rw [r5.len, List.length_append, List.length_map, List.length_take]
          exact szlt (by omega)
        · rw [upd_ne (ne_of_none q f7)]; exact k1.fh b u q
        · rw [upd_ne (fun z => m (by rw [z]; exact hM))]; exact k1.hh b u m q
        · by_cases ea : a = D
          · rw [ea, upd_same] at ha; cases ha
          · rw [upd_ne ea] at ha; exact w57.fr fr5 a ha
        · rw [← ew1]
          have S9 := S8.wipe vs1
          rw [hw7] at S9
          refine ⟨S9.len, fun i o s g1 g2 => ?_, S9.dis⟩
          have z := S9.at_ i o s g1 g2
          cases s with
          | o b v2 => exact ⟨z.1, z.2.1, z.2.2.1, z.2.2.2.upd_ne' fun q => z.2.1.2 q⟩
          | e => exact z
          | d x => exact z
          | s ns => exact z
          | m kvs => exact z
          | mt kvs => exact z
        · rw [htk1, ← List.append_assoc]
          exact (RpA.mono w57.ff _ r5).append (.cons r7 .nil)
      · rintro H5 ⟨F5, ws, w5, s5, fr5, S6, f5, hD5, r5⟩
        rw [List.take_length, ← htk] at r5
        exact ⟨F5, ws, w5, back S6, f5, hD5, r5⟩
    · rintro H2 ⟨F2, vs', w2, S2, f2, hD2, r2⟩
      have : acc xs.length = xs.flatMap fun x => (L x).map (f x) := by show (xs.take xs.length).flatMap _ = _; rw [List.take_length]
      rw [this] at r2
      refine q _ _ D F2 H2 hd (w1.trans w2) (Sd.patch vs S1 w2 (sub S2)) hM f2 ⟨vs', hD2, r2⟩ fun j w z => ?_
      have this : ∀ (j : Nat) (w : OD), (wipeS as1 vs)[j]? ≠ some (.o D w) := fun j w z => ((S2.geto z).2.1).2 rfl
      by_cases hv : (patch (wipeS as1 vs) as1 vs)[j]? = (wipeS as1 vs)[j]?
      · rw [hv] at z; exact this j w z
      · have gen : ∀ ws : List Nat, (patch (wipeS as1 vs) as1 ws)[j]? = (wipeS as1 vs)[j]? ∨ ∃ s, (patch (wipeS as1 vs) as1 ws)[j]? = some (keepS s) := by
          intro ws
          induction ws with
          | nil => exact .inl rfl
          | cons v ws ih =>
            unfold patch
            by_cases e : v = j
            · subst e
              by_cases hlt : v < (patch (wipeS as1 vs) as1 ws).length
              · exact .inr ⟨_, List.getElem?_set_self hlt⟩
              · rw [List.set_eq_of_length_le (by omega)]; exact ih
            · rw [List.getElem?_set_ne e]; exact ih
        rcases gen vs with g | ⟨s, g⟩
        · exact hv g
        · rw [g] at z
          cases s <;> cases z
theorem ev_lc2M {α β : Type} (enc : α → PyData) (enc' : β → PyData) (L : α → List β) (f : α → β → PyData) {wi wi1 : TI} {g g1 : TG} {vs vs1 js js1 : List Nat} (hj : ∀ j ∈ js, j ∈ vs) (hj1 : ∀ j ∈ js1, j ∈ vs1) (hv : ∀ j ∈ vs1, j ∈ vs)
    (h : EvI K wi as fun ds as1 => ∃ xs : List α, ds = xs.map enc ∧ (xs.flatMap fun x => (L x).map (f x)).length ≤ 90000 ∧
      (∀ x, x ∈ xs → EvG K g js (enc x) (wipeS as1 vs) fun as2 => EvI K wi1 as2 fun es as3 => es = (L x).map enc' ∧ wipeS (wipeS as3 vs1) vs = wipeS as1 vs ∧
        ∀ y, y ∈ L x → EvG K g1 js1 (enc' y) (wipeS as3 vs1) fun as4 => Ev K te as4 fun d as5 => d = f x y ∧ wipeS as5 vs1 = wipeS as3 vs1) ∧
      Φ (.list (xs.flatMap fun x => (L x).map (f x))) (patch (wipeS as1 vs) as1 vs)) : Ev K (tLc2 wi g tYes wi1 g1 tYes te vs vs1) as Φ :=
  ev_new (en_lc2M enc enc' L f hj hj1 hv (h.mono fun ds as1 ⟨xs, h1, h2, h3, h4⟩ => ⟨xs, h1, h2, h3, _, rfl, h4⟩))
end
end Lp

set_option Elab.async false
set_option linter.all false
set_option maxRecDepth 100000
set_option maxHeartbeats 4000000
/-! Lp: readings of checks.py, the looks. -/
namespace Lp
open PySem PySem.Spec L2
local macro_rules | `(tactic| walk_at "e1") => `(tactic| first
  | (with_reducible refine y_seq ?_) | (with_reducible refine ev_var (by with_unfolding_all rfl) ?_) | (with_reducible refine ev_int ?_) | (with_reducible refine ev_bl ?_) | (with_reducible refine ev_non ?_) | (with_reducible refine ev_str ?_)
  | (with_reducible refine y_ret ?_) | (with_reducible refine y_retN ?_) | (with_reducible refine y_next ?_) | (with_reducible refine x_if ?_) | (with_reducible refine y_setM (em_call ?_)) | (with_reducible refine y_set ?_) | (with_reducible refine y_drop ?_)
  | (with_reducible refine eb_test ?_) | (with_reducible refine eb_B ?_) | (with_reducible refine eb_not ?_) | (with_reducible refine eb_and ?_) | (with_reducible refine eb_or ?_) | (with_reducible refine eb_yes ?_)
  | (with_reducible refine ev_and ?_) | (with_reducible refine ev_or ?_) | (with_reducible refine ev_not ?_) | (with_reducible refine ev_if ?_)
  | (with_reducible refine ev_I ?_) | (with_reducible refine ev_BI ?_) | (with_reducible refine ev_IC ?_) | (with_reducible refine ev_chainB ?_) | (with_reducible refine ev_un ?_)
  | (with_reducible refine ev_ixL ?_) | (with_reducible refine ev_ixT ?_) | (with_reducible refine ev_isi ?_) | (with_reducible refine ev_isN ?_) | (with_reducible refine ev_notN ?_) | (with_reducible refine ev_isB ?_) | (with_reducible refine ev_notB ?_)
  | (with_reducible refine ev_eqG ?_) | (with_reducible refine ev_neG ?_) | (with_reducible refine ev_eqD ?_) | (with_reducible refine ev_neD ?_)
  | (with_reducible refine ev_slen (by with_unfolding_all rfl) ?_) | (with_reducible refine ev_olen (by with_unfolding_all rfl) ?_) | (with_reducible refine ev_oixC (by with_unfolding_all rfl) (by with_unfolding_all rfl) (by with_unfolding_all rfl) ?_) | (with_reducible refine ev_len ?_) | (with_reducible refine ev_tup ?_) | (with_reducible refine ev_lst ?_) | (with_reducible refine ea_nil ?_) | (with_reducible refine ea_cons ?_) | (with_reducible refine ea_star ?_)
  | (with_reducible refine ev_call ?_) | (with_reducible refine em_call ?_) | (with_reducible refine em_var (by with_unfolding_all rfl) ?_) | (with_reducible refine ev_max2 ?_) | (with_reducible refine ev_min2 ?_) | (with_reducible refine ev_abs ?_)
  | (with_reducible refine ev_all ?_) | (with_reducible refine ev_any ?_) | (with_reducible refine ev_sum ?_) | (with_reducible refine ev_max ?_) | (with_reducible refine ev_min ?_) | (with_reducible refine ev_tupOf ?_)
  | (with_reducible refine ev_sortedI ?_) | (with_reducible refine ev_sortedP ?_) | (with_reducible refine ev_sortedD ?_) | (with_reducible refine ev_maxVals ?_) | (with_reducible refine ev_dget ?_) | (with_reducible refine ev_dget1 ?_) | (with_reducible refine ev_din ?_) | (with_reducible refine ev_dnotin ?_)
  | (with_reducible refine ev_slL ?_) | (with_reducible refine ev_slT ?_) | (with_reducible refine eo_none ?_) | (with_reducible refine eo_some ?_) | (with_reducible refine ev_cat ?_) | (with_reducible refine ev_ltT ?_) | (with_reducible refine ev_inI ?_)
  | (with_reducible refine ei_list ?_) | (with_reducible refine ei_tup ?_) | (with_reducible refine ei_rng1 ?_) | (with_reducible refine ei_rng2 ?_) | (with_reducible refine ei_zip ?_) | (with_reducible refine eg_name ?_) | (with_reducible refine eg_tup ?_) | (with_reducible refine egs_name ?_) | (with_reducible refine egs_nil ?_)
  | (with_reducible refine x_never ?_))
local macro_rules | `(tactic| walk_at "e") => `(tactic| first | walk_at "e1" | exact ⟨_, _, rfl, rfl, rfl⟩ | (refine ⟨_, _, rfl, rfl, ?_⟩) | (refine ⟨_, rfl, ?_⟩))
local macro_rules | `(tactic| walk_at "go") => `(tactic| repeat walk_at "e1")
def A_is_whole_number (ds : List PyData) (Φ : PyData → Prop) : Prop := ∃ i, ds = [.int i] ∧ Φ (.bool true)
abbrev sp_is_whole_number : Sp := spD A_is_whole_number
def t_is_whole_number (K : PySem.W.Frag) : TS := (tRet (tAndV (tCB (rIsi K) (tCons (tVar 0) (tCons (tC (.ty "int")) tNil))) (tNotV (tCB (rIsi K) (tCons (tVar 0) (tCons (tC (.ty "bool")) tNil))))))
def N_is_whole_number : List Str := ["value"]
theorem len_is_whole_number : ∀ vs H Q E, sp_is_whole_number vs H Q E → vs.length = (["value"] : List Str).length := lenD fun ds Φ h => by
  obtain ⟨i, rfl, h⟩ := h; rfl
theorem rd_is_whole_number {K : PySem.W.Frag} : ∀ vs H Q E, sp_is_whole_number vs H Q E → t_is_whole_number K { nx := fun _ H' => Q .non H', rt := Q } (L2.start N_is_whole_number vs) H := rd_D fun ds Φ h => by
  obtain ⟨i, rfl, h⟩ := h
  show Ex K _ _ [.d (.int i)]
  unfold t_is_whole_number
  walk_at "go"
  refine ⟨true, rfl, ?_⟩
  refine ⟨true, rfl, fun _ => ?_, nofun⟩
  walk_at "go"
  refine ⟨false, rfl, ?_⟩
  exact ⟨false, rfl, h⟩
def A_is_int (ds : List PyData) (Φ : PyData → Prop) : Prop := ∃ i lo hi : Int, ds = [.int i, .int lo, .int hi] ∧ Φ (.bool (decide (lo ≤ i) && decide (i ≤ hi)))
abbrev sp_is_int : Sp := spD A_is_int
def t_is_int (K : PySem.W.Frag) : TS := (tRet (tAndV (tCall sp_is_whole_number [] E0 (tCons (tVar 0) tNil)) (tChain (rI0 fun i j => .bl (decide (i ≤ j))) (rI0 fun i j => .bl (decide (i ≤ j))) (tVar 1) (tVar 0) (tVar 2))))
def N_is_int : List Str := ["value", "least", "most"]
theorem len_is_int : ∀ vs H Q E, sp_is_int vs H Q E → vs.length = (["value", "least", "most"] : List Str).length := lenD fun ds Φ h => by
  obtain ⟨i, lo, hi, rfl, h⟩ := h; rfl
theorem rd_is_int {K : PySem.W.Frag} : ∀ vs H Q E, sp_is_int vs H Q E → t_is_int K { nx := fun _ H' => Q .non H', rt := Q } (L2.start N_is_int vs) H := rd_D fun ds Φ h => by
  obtain ⟨i, lo, hi, rfl, h⟩ := h
  show Ex K _ _ [.d (.int i), .d (.int lo), .d (.int hi)]
  unfold t_is_int
  walk_at "go"
  refine ⟨i, rfl, true, rfl, fun _ => ?_, nofun⟩
  walk_at "go"
  refine ⟨lo, i, rfl, rfl, fun h1 => ?_, fun h1 => ?_⟩
  · walk_at "go"
    refine ⟨hi, rfl, ?_⟩
    rw [h1] at h; exact h
  · rw [h1] at h; exact h
theorem is_int_t {i lo hi : Int} {Φ : PyData → Prop} (h1 : lo ≤ i) (h2 : i ≤ hi) (h : Φ (.bool true)) : A_is_int [.int i, .int lo, .int hi] Φ := ⟨i, lo, hi, rfl, by rw [decide_eq_true h1, decide_eq_true h2]; exact h⟩
def A_look_at_int (ds : List PyData) (Φ : PyData → Prop) : Prop := ∃ i lo hi : Int, ds = [.int i, .int lo, .int hi] ∧ lo ≤ i ∧ i ≤ hi ∧ Φ .none
abbrev sp_look_at_int : Sp := spD A_look_at_int
def t_look_at_int (K : PySem.W.Frag) : TS := (tIfS (tNot (tB (tCall sp_is_int [] E0 (tCons (tVar 0) (tCons (tVar 1) (tCons (tVar 2) tNil)))))) tNever tNext)
def N_look_at_int : List Str := ["value", "least", "most"]
theorem len_look_at_int : ∀ vs H Q E, sp_look_at_int vs H Q E → vs.length = (["value", "least", "most"] : List Str).length := lenD fun ds Φ h => by
  obtain ⟨i, lo, hi, rfl, h1, h2, h⟩ := h; rfl
theorem rd_look_at_int {K : PySem.W.Frag} : ∀ vs H Q E, sp_look_at_int vs H Q E → t_look_at_int K { nx := fun _ H' => Q .non H', rt := Q } (L2.start N_look_at_int vs) H := rd_D fun ds Φ h => by
  obtain ⟨i, lo, hi, rfl, h1, h2, h⟩ := h
  show Ex K _ _ [.d (.int i), .d (.int lo), .d (.int hi)]
  unfold t_look_at_int
  walk_at "go"
  refine is_int_t h1 h2 ⟨_, rfl, nofun, fun _ => y_next h⟩
theorem lex_tD {s t : Nat × Nat} (h : ltP s t) : HT.lexLt [(s.1 : Int), (s.2 : Int)] [(t.1 : Int), (t.2 : Int)] = true := by
  unfold ltP at h
  simp only [HT.lexLt]
  rcases h with h | ⟨h1, h2⟩
  · have : (s.1 : Int) < t.1 := by omega
    have h2 : ¬ (s.1 : Int) = t.1 := by omega
    simp [h2, this]
  · have : (s.2 : Int) < t.2 := by omega
    have h3 : ¬ (s.2 : Int) = t.2 := by omega
    simp [h1, h3, this]
theorem zip_tail {α : Type} {R : α → α → Prop} : ∀ {xs : List α}, xs.Pairwise R → ∀ p ∈ xs.zip (xs.drop 1), R p.1 p.2
  | [], _, p, hp => by simp at hp
  | [x], _, p, hp => by simp at hp
  | x :: y :: xs, h, p, hp => by
    cases h with
    | cons h1 h2 =>
      simp only [List.drop_succ_cons, List.drop_zero, List.zip_cons_cons, List.mem_cons] at hp
      rcases hp with rfl | hp
      · exact h1 y (by simp)
      · exact zip_tail h2 p (by simpa using hp)
theorem cut_from (xs : List PyData) (k : Nat) : cutD xs (some (k : Int)) none = xs.drop k := by
  unfold cutD HT.sIx
  have h : ¬ (k : Int) < 0 := by omega
  simp only [h, if_false, Int.toNat_natCast]
  rcases Nat.le_total k xs.length with h1 | h1
  · rw [Nat.min_eq_left h1, List.take_of_length_le (by simp)]
  · rw [Nat.min_eq_right h1, List.drop_of_length_le h1, List.drop_of_length_le (Nat.le_refl _)]; simp
theorem all_map_t {α : Type} (xs : List α) : (xs.map fun _ => true).all id = true := by simp
theorem bools_t {α : Type} (xs : List α) : (xs.map fun _ => PyData.bool true) = (xs.map fun _ => true).map PyData.bool := by simp
def A_is_ascending (ds : List PyData) (Φ : PyData → Prop) : Prop := ∃ ts : List (Nat × Nat), ds = [.tuple (ts.map tD)] ∧ ts.length ≤ 5000 ∧ ts.Pairwise ltP ∧ Φ (.bool true)
abbrev sp_is_ascending : Sp := spD A_is_ascending
def t_is_ascending (K : PySem.W.Frag) : TS := (tRet (tCB (rAll K) (tCons (tLc (RZ.iZipA K (tCons (tVar 0) (tCons (tSl (rSlA K) (tVar 0) (tPart (tC (.int 1))) tNoPart) tNil))) (gTup K 2 (gCons (gName 1) (gCons (gName 2) gNil))) tYes (tOp (rLtT K) (tVar 1) (tVar 2)) [1, 2]) tNil)))
def N_is_ascending : List Str := ["value", "one", "other"]
theorem len_is_ascending : ∀ vs H Q E, sp_is_ascending vs H Q E → vs.length = (["value"] : List Str).length := lenD fun ds Φ h => by
  obtain ⟨ts, rfl, hl, hp, h⟩ := h; rfl
theorem rd_is_ascending {K : PySem.W.Frag} : ∀ vs H Q E, sp_is_ascending vs H Q E → t_is_ascending K { nx := fun _ H' => Q .non H', rt := Q } (L2.start N_is_ascending vs) H := rd_D fun ds Φ h => by
  obtain ⟨ts, rfl, hl, hp, h⟩ := h
  show Ex K _ _ [.d (.tuple (ts.map tD)), .e, .e]
  unfold t_is_ascending
  walk_at "go"
  refine ev_lcM (fun p : (Nat × Nat) × (Nat × Nat) => .tuple [tD p.1, tD p.2]) (fun _ => .bool true) (js := [1, 2]) (by decide) ?_
  walk_at "go"
  refine ⟨1, rfl, ?_⟩
  walk_at "go"
  refine ⟨_, rfl, ?_⟩
  walk_at "go"
  refine ⟨_, _, .inr rfl, ts.zip (ts.drop 1), ?_, ?_, ?_, ?_⟩
  · rw [show (1 : Int) = ((1 : Nat) : Int) from rfl, cut_from, ← List.map_drop]
    unfold zipD
    rw [List.zip_map, List.map_map]
    rfl
  · simp; omega
  · rintro ⟨s, t⟩ hx
    walk_at "go"
    refine ⟨_, rfl, rfl, ?_⟩
    walk_at "go"
    refine ⟨[(s.1 : Int), (s.2 : Int)], [(t.1 : Int), (t.2 : Int)], rfl, rfl, ?_, rfl⟩
    rw [lex_tD (zip_tail hp _ hx)]
  · walk_at "go"
    refine ⟨(ts.zip (ts.drop 1)).map fun _ => true, ?_, ?_⟩
    · rw [bools_t]
    · rw [all_map_t]; exact h
def A_is_tie (ds : List PyData) (Φ : PyData → Prop) : Prop := ∃ (t : Nat × Nat) (n : Nat), ds = [tD t, .int n] ∧ t.1 < t.2 ∧ t.2 < n ∧ Φ (.bool true)
abbrev sp_is_tie : Sp := spD A_is_tie
def t_is_tie (K : PySem.W.Frag) : TS := (tSeq (tIfS (tOr (tNot (tB (tCB (rIsi K) (tCons (tVar 0) (tCons (tC (.ty "tuple")) tNil))))) (tOr (tTest (tOp rNe (tCB (rLenS K) (tCons (tVar 0) tNil)) (tC (.int 2)))) (tNot (tB (tCB (rAll K) (tCons (tLc (iTup K (tVar 0)) (gName 2) tYes (tCall sp_is_int [] E0 (tCons (tVar 2) (tCons (tC (.int 0)) (tCons (tOp (rI0 fun i j => .int (i - j)) (tVar 1) (tC (.int 1))) tNil)))) [2]) tNil)))))) (tRet (tC (.bl false))) tNext) (tRet (tOp (rI0 fun i j => .bl (decide (i < j))) (tOp (rIxT K) (tVar 0) (tC (.int 0))) (tOp (rIxT K) (tVar 0) (tC (.int 1))))))
def N_is_tie : List Str := ["value", "many", "one"]
theorem len_is_tie : ∀ vs H Q E, sp_is_tie vs H Q E → vs.length = (["value", "many"] : List Str).length := lenD fun ds Φ h => by
  obtain ⟨t, n, rfl, h1, h2, h⟩ := h; rfl
theorem rd_is_tie {K : PySem.W.Frag} : ∀ vs H Q E, sp_is_tie vs H Q E → t_is_tie K { nx := fun _ H' => Q .non H', rt := Q } (L2.start N_is_tie vs) H := rd_D fun ds Φ h => by
  obtain ⟨t, n, rfl, h1, h2, h⟩ := h
  show Ex K _ _ [.d (tD t), .d (.int n), .e]
  unfold t_is_tie
  walk_at "go"
  refine ⟨true, rfl, ?_⟩
  refine ⟨true, rfl, fun _ => ?_, nofun⟩
  walk_at "go"
  refine ⟨_, _, rfl, rfl, ?_⟩
  walk_at "go"
  refine ⟨_, rfl, _, rfl, fun _ => ?_, nofun⟩
  walk_at "go"
  refine ev_lcM (fun x : Nat => .int x) (fun _ => .bool true) (js := [2]) (by decide) ?_
  walk_at "go"
  refine ⟨_, rfl, [t.1, t.2], rfl, by simp, ?_, ?_⟩
  · intro x hx
    walk_at "go"
    refine ⟨n, 1, rfl, rfl, ?_⟩
    walk_at "go"
    have : x < n := by
      rcases List.mem_cons.mp hx with rfl | hx
      · omega
      · rw [List.mem_singleton.mp hx]; exact h2
    refine is_int_t (by omega) (by omega) ⟨rfl, rfl⟩
  · walk_at "go"
    refine ⟨[true, true], rfl, true, rfl, nofun, fun _ => ?_⟩
    walk_at "go"
    refine ⟨_, 0, _, rfl, rfl, rfl, ?_⟩
    walk_at "go"
    refine ⟨_, 1, _, rfl, rfl, rfl, ?_⟩
    refine ⟨_, _, rfl, rfl, ?_⟩
    rw [decide_eq_true (by omega)]
    exact h
theorem tD_get {ts : List (Nat × Nat)} {t : Nat × Nat} (h : t ∈ ts) : tD t ∈ ts.map tD := List.mem_map_of_mem h
def A_is_told_web (ds : List PyData) (Φ : PyData → Prop) : Prop := ∃ W : Web, ds = [webD W] ∧ W.Ok ∧ Φ (.bool true)
abbrev sp_is_told_web : Sp := spD A_is_told_web
def t_is_told_web (K : PySem.W.Frag) : TS := (tSeq (tIfS (tOr (tNot (tB (tCB (rIsi K) (tCons (tVar 0) (tCons (tC (.ty "tuple")) tNil))))) (tOr (tTest (tOp rNe (tCB (rLenS K) (tCons (tVar 0) tNil)) (tC (.int 2)))) (tNot (tB (tCall sp_is_int [] E0 (tCons (tOp (rIxT K) (tVar 0) (tC (.int 0))) (tCons (tC (.int 1)) (tCons (tC (.int 40)) tNil)))))))) (tRet (tC (.bl false))) tNext) (tSeq (tIfS (tOr (tNot (tB (tCB (rIsi K) (tCons (tOp (rIxT K) (tVar 0) (tC (.int 1))) (tCons (tC (.ty "tuple")) tNil))))) (tNot (tB (tCB (rAll K) (tCons (tLc (iTup K (tOp (rIxT K) (tVar 0) (tC (.int 1)))) (gName 1) tYes (tCall sp_is_tie [] E0 (tCons (tVar 1) (tCons (tOp (rIxT K) (tVar 0) (tC (.int 0))) tNil))) [1]) tNil))))) (tRet (tC (.bl false))) tNext) (tRet (tCall sp_is_ascending [] E0 (tCons (tOp (rIxT K) (tVar 0) (tC (.int 1))) tNil)))))
def N_is_told_web : List Str := ["value", "one"]
theorem len_is_told_web : ∀ vs H Q E, sp_is_told_web vs H Q E → vs.length = (["value"] : List Str).length := lenD fun ds Φ h => by
  obtain ⟨W, rfl, ok, h⟩ := h; rfl
theorem rd_is_told_web {K : PySem.W.Frag} : ∀ vs H Q E, sp_is_told_web vs H Q E → t_is_told_web K { nx := fun _ H' => Q .non H', rt := Q } (L2.start N_is_told_web vs) H := rd_D fun ds Φ h => by
  obtain ⟨W, rfl, ok, h⟩ := h
  show Ex K _ _ [.d (webD W), .e]
  unfold t_is_told_web
  have o1 := ok.lo
  have o2 := ok.hi
  walk_at "go"
  refine ⟨true, rfl, ?_⟩
  refine ⟨true, rfl, fun _ => ?_, nofun⟩
  walk_at "go"
  refine ⟨_, _, rfl, rfl, ?_⟩
  walk_at "go"
  refine ⟨_, rfl, _, rfl, fun _ => ?_, nofun⟩
  walk_at "go"
  refine ⟨_, 0, _, rfl, rfl, rfl, ?_⟩
  walk_at "go"
  refine is_int_t (by omega) (by omega) ⟨_, rfl, nofun, fun _ => ?_⟩
  walk_at "go"
  refine ⟨_, 1, _, rfl, rfl, rfl, true, rfl, true, rfl, fun _ => ?_, nofun⟩
  walk_at "go"
  refine ev_lcM tD (fun _ => .bool true) (js := [1]) (by decide) ?_
  walk_at "go"
  refine ⟨_, 1, _, rfl, rfl, rfl, _, rfl, W.ts, rfl, ?_, ?_, ?_⟩
  · have := ok.len; omega
  · intro t ht
    walk_at "go"
    refine ⟨_, 0, _, rfl, rfl, rfl, ?_⟩
    walk_at "go"
    exact ⟨t, W.n, rfl, (ok.tie t ht).1, (ok.tie t ht).2, rfl, rfl⟩
  · walk_at "go"
    refine ⟨W.ts.map fun _ => true, ?_, ?_⟩
    · rw [bools_t]
    · rw [all_map_t]
      refine ⟨_, rfl, nofun, fun _ => ?_⟩
      walk_at "go"
      refine ⟨_, 1, _, rfl, rfl, rfl, ?_⟩
      walk_at "go"
      exact ⟨W.ts, rfl, by have := ok.len; omega, ok.asc, h⟩
def A_look_at_web (ds : List PyData) (Φ : PyData → Prop) : Prop := ∃ W : Web, ds = [webD W] ∧ W.Ok ∧ Φ .none
abbrev sp_look_at_web : Sp := spD A_look_at_web
def t_look_at_web (K : PySem.W.Frag) : TS := (tIfS (tNot (tB (tCall sp_is_told_web [] E0 (tCons (tVar 0) tNil)))) tNever tNext)
def N_look_at_web : List Str := ["web"]
theorem len_look_at_web : ∀ vs H Q E, sp_look_at_web vs H Q E → vs.length = (["web"] : List Str).length := lenD fun ds Φ h => by
  obtain ⟨W, rfl, ok, h⟩ := h; rfl
theorem rd_look_at_web {K : PySem.W.Frag} : ∀ vs H Q E, sp_look_at_web vs H Q E → t_look_at_web K { nx := fun _ H' => Q .non H', rt := Q } (L2.start N_look_at_web vs) H := rd_D fun ds Φ h => by
  obtain ⟨W, rfl, ok, h⟩ := h
  show Ex K _ _ [.d (webD W)]
  unfold t_look_at_web
  walk_at "go"
  exact ⟨W, rfl, ok, _, rfl, nofun, fun _ => y_next h⟩
def A_look_at_place (ds : List PyData) (Φ : PyData → Prop) : Prop := ∃ (W : Web) (x : Nat), ds = [webD W, nD x] ∧ W.Ok ∧ x < W.n ∧ Φ .none
abbrev sp_look_at_place : Sp := spD A_look_at_place
def t_look_at_place (K : PySem.W.Frag) : TS := (tSeq (tDrop (tCall sp_look_at_web [] E0 (tCons (tVar 0) tNil))) (tIfS (tNot (tB (tCall sp_is_int [] E0 (tCons (tVar 1) (tCons (tC (.int 0)) (tCons (tOp (rI0 fun i j => .int (i - j)) (tOp (rIxT K) (tVar 0) (tC (.int 0))) (tC (.int 1))) tNil)))))) tNever tNext))
def N_look_at_place : List Str := ["web", "place"]
theorem len_look_at_place : ∀ vs H Q E, sp_look_at_place vs H Q E → vs.length = (["web", "place"] : List Str).length := lenD fun ds Φ h => by
  obtain ⟨W, x, rfl, ok, hx, h⟩ := h; rfl
theorem rd_look_at_place {K : PySem.W.Frag} : ∀ vs H Q E, sp_look_at_place vs H Q E → t_look_at_place K { nx := fun _ H' => Q .non H', rt := Q } (L2.start N_look_at_place vs) H := rd_D fun ds Φ h => by
  obtain ⟨W, x, rfl, ok, hx, h⟩ := h
  show Ex K _ _ [.d (webD W), .d (nD x)]
  unfold t_look_at_place
  walk_at "go"
  refine ⟨W, rfl, ok, ?_⟩
  walk_at "go"
  refine ⟨_, 0, _, rfl, rfl, rfl, ?_⟩
  walk_at "go"
  refine ⟨_, _, rfl, rfl, ?_⟩
  walk_at "go"
  exact is_int_t (by omega) (by omega) ⟨_, rfl, nofun, fun _ => y_next h⟩
def A_look_at_two (ds : List PyData) (Φ : PyData → Prop) : Prop := ∃ (W : Web) (x y : Nat), ds = [webD W, nD x, nD y] ∧ W.Ok ∧ x < W.n ∧ y < W.n ∧ Φ .none
abbrev sp_look_at_two : Sp := spD A_look_at_two
def t_look_at_two (K : PySem.W.Frag) : TS := (tSeq (tDrop (tCall sp_look_at_place [] E0 (tCons (tVar 0) (tCons (tVar 1) tNil)))) (tDrop (tCall sp_look_at_place [] E0 (tCons (tVar 0) (tCons (tVar 2) tNil)))))
def N_look_at_two : List Str := ["web", "one", "other"]
theorem len_look_at_two : ∀ vs H Q E, sp_look_at_two vs H Q E → vs.length = (["web", "one", "other"] : List Str).length := lenD fun ds Φ h => by
  obtain ⟨W, x, y, rfl, ok, hx, hy, h⟩ := h; rfl
theorem rd_look_at_two {K : PySem.W.Frag} : ∀ vs H Q E, sp_look_at_two vs H Q E → t_look_at_two K { nx := fun _ H' => Q .non H', rt := Q } (L2.start N_look_at_two vs) H := rd_D fun ds Φ h => by
  obtain ⟨W, x, y, rfl, ok, hx, hy, h⟩ := h
  show Ex K _ _ [.d (webD W), .d (nD x), .d (nD y)]
  unfold t_look_at_two
  walk_at "go"
  refine ⟨W, x, rfl, ok, hx, ?_⟩
  walk_at "go"
  exact ⟨W, y, rfl, ok, hy, h⟩
def A_look_at_far (ds : List PyData) (Φ : PyData → Prop) : Prop := ∃ (W : Web) (k : Nat), ds = [webD W, nD k] ∧ W.Ok ∧ 1 ≤ k ∧ k ≤ 40 ∧ Φ .none
abbrev sp_look_at_far : Sp := spD A_look_at_far
def t_look_at_far (K : PySem.W.Frag) : TS := (tSeq (tDrop (tCall sp_look_at_web [] E0 (tCons (tVar 0) tNil))) (tDrop (tCall sp_look_at_int [] E0 (tCons (tVar 1) (tCons (tC (.int 1)) (tCons (tC (.int 40)) tNil))))))
def N_look_at_far : List Str := ["web", "far"]
theorem len_look_at_far : ∀ vs H Q E, sp_look_at_far vs H Q E → vs.length = (["web", "far"] : List Str).length := lenD fun ds Φ h => by
  obtain ⟨W, k, rfl, ok, h1, h2, h⟩ := h; rfl
theorem rd_look_at_far {K : PySem.W.Frag} : ∀ vs H Q E, sp_look_at_far vs H Q E → t_look_at_far K { nx := fun _ H' => Q .non H', rt := Q } (L2.start N_look_at_far vs) H := rd_D fun ds Φ h => by
  obtain ⟨W, k, rfl, ok, h1, h2, h⟩ := h
  show Ex K _ _ [.d (webD W), .d (nD k)]
  unfold t_look_at_far
  walk_at "go"
  refine ⟨W, rfl, ok, ?_⟩
  walk_at "go"
  exact ⟨_, _, _, rfl, by omega, by omega, h⟩
def A_tie_of (ds : List PyData) (Φ : PyData → Prop) : Prop := ∃ (x y : Nat), ds = [nD x, nD y] ∧ Φ (tD (min x y, max x y))
abbrev sp_tie_of : Sp := spD A_tie_of
def t_tie_of (K : PySem.W.Frag) : TS := (tRet (tTup (tCons (tCB rMin2 (tCons (tVar 0) (tCons (tVar 1) tNil))) (tCons (tCB rMax2 (tCons (tVar 0) (tCons (tVar 1) tNil))) tNil))))
def N_tie_of : List Str := ["one", "other"]
theorem len_tie_of : ∀ vs H Q E, sp_tie_of vs H Q E → vs.length = (["one", "other"] : List Str).length := lenD fun ds Φ h => by
  obtain ⟨x, y, rfl, h⟩ := h; rfl
theorem rd_tie_of {K : PySem.W.Frag} : ∀ vs H Q E, sp_tie_of vs H Q E → t_tie_of K { nx := fun _ H' => Q .non H', rt := Q } (L2.start N_tie_of vs) H := rd_D fun ds Φ h => by
  obtain ⟨x, y, rfl, h⟩ := h
  show Ex K _ _ [.d (nD x), .d (nD y)]
  unfold t_tie_of
  walk_at "go"
  refine ⟨_, _, rfl, ?_⟩
  walk_at "go"
  refine ⟨_, _, rfl, ?_⟩
  walk_at "go"
  refine ⟨by simp, ?_⟩
  have e1 : ((min x y : Nat) : Int) = min (x : Int) (y : Int) := by omega
  have e2 : ((max x y : Nat) : Int) = max (x : Int) (y : Int) := by omega
  unfold tD at h
  rw [e1, e2] at h
  exact h
end Lp


set_option Elab.async false
set_option linter.all false
set_option maxRecDepth 100000
set_option maxHeartbeats 4000000
/-! Lp: near_of. -/
namespace Lp
open PySem PySem.Spec L2
local macro_rules | `(tactic| walk_at "e1") => `(tactic| first
  | (with_reducible refine y_seq ?_) | (with_reducible refine ev_var (by with_unfolding_all rfl) ?_) | (with_reducible refine ev_int ?_) | (with_reducible refine ev_bl ?_) | (with_reducible refine ev_non ?_) | (with_reducible refine ev_str ?_)
  | (with_reducible refine y_ret ?_) | (with_reducible refine y_retN ?_) | (with_reducible refine y_next ?_) | (with_reducible refine x_if ?_) | (with_reducible refine y_setM (em_call ?_)) | (with_reducible refine y_set ?_) | (with_reducible refine y_drop ?_)
  | (with_reducible refine eb_test ?_) | (with_reducible refine eb_B ?_) | (with_reducible refine eb_not ?_) | (with_reducible refine eb_and ?_) | (with_reducible refine eb_or ?_) | (with_reducible refine eb_yes ?_)
  | (with_reducible refine ev_and ?_) | (with_reducible refine ev_or ?_) | (with_reducible refine ev_not ?_) | (with_reducible refine ev_if ?_)
  | (with_reducible refine ev_I ?_) | (with_reducible refine ev_BI ?_) | (with_reducible refine ev_IC ?_) | (with_reducible refine ev_chainB ?_) | (with_reducible refine ev_un ?_)
  | (with_reducible refine ev_ixL ?_) | (with_reducible refine ev_ixT ?_) | (with_reducible refine ev_isi ?_) | (with_reducible refine ev_isN ?_) | (with_reducible refine ev_notN ?_) | (with_reducible refine ev_isB ?_) | (with_reducible refine ev_notB ?_)
  | (with_reducible refine ev_eqG ?_) | (with_reducible refine ev_neG ?_) | (with_reducible refine ev_eqD ?_) | (with_reducible refine ev_neD ?_)
  | (with_reducible refine ev_slen (by with_unfolding_all rfl) ?_) | (with_reducible refine ev_olen (by with_unfolding_all rfl) ?_) | (with_reducible refine ev_oixC (by with_unfolding_all rfl) (by with_unfolding_all rfl) (by with_unfolding_all rfl) ?_) | (with_reducible refine ev_len ?_) | (with_reducible refine ev_tup ?_) | (with_reducible refine ev_lst ?_) | (with_reducible refine ea_nil ?_) | (with_reducible refine ea_cons ?_) | (with_reducible refine ea_star ?_)
  | (with_reducible refine ev_call ?_) | (with_reducible refine em_call ?_) | (with_reducible refine em_var (by with_unfolding_all rfl) ?_) | (with_reducible refine ev_max2 ?_) | (with_reducible refine ev_min2 ?_) | (with_reducible refine ev_abs ?_)
  | (with_reducible refine ev_all ?_) | (with_reducible refine ev_any ?_) | (with_reducible refine ev_sum ?_) | (with_reducible refine ev_max ?_) | (with_reducible refine ev_min ?_) | (with_reducible refine ev_tupOf ?_)
  | (with_reducible refine ev_sortedI ?_) | (with_reducible refine ev_sortedP ?_) | (with_reducible refine ev_sortedD ?_) | (with_reducible refine ev_maxVals ?_) | (with_reducible refine ev_dget ?_) | (with_reducible refine ev_dget1 ?_) | (with_reducible refine ev_din ?_) | (with_reducible refine ev_dnotin ?_)
  | (with_reducible refine ev_slL ?_) | (with_reducible refine ev_slT ?_) | (with_reducible refine eo_none ?_) | (with_reducible refine eo_some ?_) | (with_reducible refine ev_cat ?_) | (with_reducible refine ev_ltT ?_) | (with_reducible refine ev_inI ?_)
  | (with_reducible refine ei_list ?_) | (with_reducible refine ei_tup ?_) | (with_reducible refine ei_rng1 ?_) | (with_reducible refine ei_rng2 ?_) | (with_reducible refine ei_zip ?_) | (with_reducible refine eg_name ?_) | (with_reducible refine eg_tup ?_) | (with_reducible refine egs_name ?_) | (with_reducible refine egs_nil ?_)
  | (with_reducible refine x_never ?_))
local macro_rules | `(tactic| walk_at "e") => `(tactic| first | walk_at "e1" | exact ⟨_, _, rfl, rfl, rfl⟩ | (refine ⟨_, _, rfl, rfl, ?_⟩) | (refine ⟨_, rfl, ?_⟩))
local macro_rules | `(tactic| walk_at "go") => `(tactic| repeat walk_at "e1")
def nbL (ts : List (Nat × Nat)) (k : Nat) : List Nat := ts.filterMap fun t => if t.1 = k then some t.2 else if t.2 = k then some t.1 else none
theorem mem_nbL {ts : List (Nat × Nat)} {k y : Nat} (h : ∀ t ∈ ts, t.1 < t.2) : y ∈ nbL ts k ↔ (k, y) ∈ ts ∨ (y, k) ∈ ts := by
  unfold nbL
  rw [List.mem_filterMap]
  constructor
  · rintro ⟨⟨a, b⟩, ht, e⟩
    by_cases h1 : a = k
    · simp only [h1, if_true] at e; cases e; rw [h1] at ht; exact .inl ht
    · simp only [h1, if_false] at e
      by_cases h2 : b = k
      · simp only [h2, if_true] at e; cases e; rw [h2] at ht; exact .inr ht
      · simp only [h2, if_false] at e; cases e
  · rintro (ht | ht)
    · exact ⟨_, ht, by simp⟩
    · have := h _ ht
      exact ⟨_, ht, by simp at this ⊢; omega⟩
theorem nbL_nodup {ts : List (Nat × Nat)} {k : Nat} (h : ∀ t ∈ ts, t.1 < t.2) (p : ts.Pairwise ltP) : (nbL ts k).Nodup := by
  unfold nbL
  refine List.pairwise_filterMap.mpr (p.imp_of_mem fun {s t} hs ht hlt => ?_)
  intro b hb b' hb' e
  have h1 := h s hs; have h2 := h t ht
  unfold ltP at hlt
  split at hb <;> split at hb' <;> (try split at hb) <;> (try split at hb') <;> simp only [Option.some.injEq, reduceCtorEq] at hb hb' <;> omega
theorem nbL_len {ts : List (Nat × Nat)} {k : Nat} : (nbL ts k).length ≤ ts.length := List.length_filterMap_le ..
theorem Web.Ok.lt {W : Web} (ok : W.Ok) : ∀ t ∈ W.ts, t.1 < t.2 := fun t ht => (ok.tie t ht).1
theorem mem_nb {W : Web} (ok : W.Ok) {k y : Nat} : y ∈ W.nb k ↔ (k, y) ∈ W.ts ∨ (y, k) ∈ W.ts := by
  unfold Web.nb Web.adj
  simp only [List.mem_filter, List.mem_range, Bool.or_eq_true, decide_eq_true_eq]
  refine ⟨fun h => h.2, fun h => ⟨?_, h⟩⟩
  rcases h with h | h
  · exact (ok.tie _ h).2
  · have := ok.tie _ h; simp only at this; omega
theorem range_lt (n : Nat) : (List.range n).Pairwise (· < ·) := List.pairwise_lt_range
theorem nb_lt (W : Web) (k : Nat) : (W.nb k).Pairwise (· < ·) := (range_lt W.n).filter _
theorem nodup_lt {xs : List Nat} (h : xs.Pairwise (· < ·)) : xs.Nodup := h.imp fun h => Nat.ne_of_lt h
theorem nb_perm {W : Web} (ok : W.Ok) (k : Nat) : (W.nb k).Perm (nbL W.ts k) :=
  (List.perm_ext_iff_of_nodup (nodup_lt (nb_lt W k)) (nbL_nodup ok.lt ok.asc)).mpr fun y => by rw [mem_nb ok, mem_nbL ok.lt]
/-- a sorted list of ints is the one -/
theorem sort_nat {ms : List Int} {xs ys : List Nat} (p : ms.Perm (xs.map Int.ofNat)) (s : ms.Pairwise (· ≤ ·)) (py : ys.Perm xs) (sy : ys.Pairwise (· < ·)) : ms = ys.map Int.ofNat := by
  refine List.Perm.eq_of_pairwise (le := (· ≤ ·)) (fun a b _ _ h1 h2 => Int.le_antisymm h1 h2) s ?_ (p.trans (py.map _).symm)
  exact List.pairwise_map.mpr (sy.imp fun {a b} h => by show (a : Int) ≤ (b : Int); omega)
theorem map_nD (xs : List Nat) : xs.map nD = (xs.map Int.ofNat).map PyData.int := by rw [List.map_map]; rfl
/-- ends of a raw walk: nothing that stood changed -/
theorem fin_raw {K : PySem.W.Frag} {F H H2 : Hp} {σ : L2.St} {as : List Sl} {t : TS} {Φ : PyData → Prop} {Q : VK} (e : Same F H) (e2 : Same H H2)
    (S : Sd K (fun a => H2 a = none) (fun a => match H a with | none => H2 a | some _ => F a) H2 σ as) (hx : Ex K t { nx := fun _ => Φ .none, rt := fun d _ => Φ d } as)
    (q : ∀ d, Φ d → ∀ v F' H', Wd F H F' H' → Rp F' v d → Q v H') : t { nx := fun _ H' => Q .non H', rt := Q } σ H2 := by
  have s2 : Same (fun a => match H a with | none => H2 a | some _ => F a) H2 := fun a o h => by
    cases hh : H a with
    | none => simp only [hh] at h; exact h
    | some u => simp only [hh] at h; exact e2 _ _ (e _ _ h)
  have w0 : Wd F H (fun a => match H a with | none => H2 a | some _ => F a) H2 := ⟨fun a o h => by simp only [e _ _ h]; exact h, s2, e2, fun a h1 h2 => by
    cases hh : H a with
    | none => exact absurd hh h1
    | some u => simp only [hh]; exact h2⟩
  have wd : ∀ {F1 H1 F' H' : Hp}, Wx (fun a => H1 a = none) F1 H1 F' H' → Wd F1 H1 F' H' := fun w => ⟨w.ff, w.fh, fun a o hh => w.hh a o (fun z => by rw [z] at hh; cases hh) hh, fun a h1 h2 => w.own a h1 h1 h2⟩
  exact hx _ _ H2 σ _ s2 (fun _ h => h) S ⟨fun as' σ' F' H' hn w S => q .none hn _ F' H' (w0.trans (wd w)) .non, fun d as' v σ' F' H' hr w S r => q d hr v F' H' (w0.trans (wd w)) r, fun _ _ _ _ z => z.elim, fun _ _ _ _ z => z.elim, fun _ _ _ _ _ z => z.elim, fun _ _ _ _ _ z => z.elim⟩
def A_near_of (ds : List PyData) (Φ : PyData → Prop) : Prop := ∃ W : Web, ds = [webD W] ∧ W.Ok ∧ Φ (nearD W)
abbrev sp_near_of : Sp := spD A_near_of
def t_near_of (K : PySem.W.Frag) : TS := (tSeq (tAsg (tLc (iRng1 (tCons (tOp (rIxT K) (tVar 0) (tC (.int 0))) tNil)) (gName 4) tYes (tLst tNil) [4]) (gName 1)) (tSeq (tFor (iTup K (tOp (rIxT K) (tVar 0) (tC (.int 1)))) (gTup K 2 (gCons (gName 2) (gCons (gName 3) gNil))) (tSeq (tDrop (tBM K "list" rAppend (tOp (rIxL K) (tVar 1) (tVar 2)) (tCons (tVar 3) tNil))) (tDrop (tBM K "list" rAppend (tOp (rIxL K) (tVar 1) (tVar 3)) (tCons (tVar 2) tNil))))) (tRet (tLc (iList K (tVar 1)) (gName 5) tYes (tCB (rSortedI K) (tCons (tVar 5) tNil)) [5]))))
def N_near_of : List Str := ["web", "found", "one", "other", "place", "some"]
theorem len_near_of : ∀ vs H Q E, sp_near_of vs H Q E → vs.length = (["web"] : List Str).length := lenD fun ds Φ h => by
  obtain ⟨i, rfl, _⟩ := h; rfl
theorem atI_nat {α : Type} {xs : List α} {k : Nat} {v : α} (h : xs[k]? = some v) : atI xs (k : Int) = some v := by
  have hl := (List.getElem?_eq_some_iff.mp h).1
  unfold atI ixN
  have h1 : (0 : Int) ≤ (k : Int) := by omega
  have h2 : (k : Int) < (xs.length : Int) := by omega
  simp only [h1, h2, if_true, Int.toNat_natCast]
  exact h
theorem rpa_of {F : Hp} : ∀ {vs : List V} {ds : List PyData}, vs.length = ds.length → (∀ (k : Nat) v d, vs[k]? = some v → ds[k]? = some d → Rp F v d) → RpA F vs ds
  | [], [], _, _ => .nil
  | v :: vs, d :: ds, hl, h => .cons (h 0 v d rfl rfl) (rpa_of (by simpa using hl) fun k w e h1 h2 => h (k + 1) w e (by simpa using h1) (by simpa using h2))
abbrev intsN (xs : List Nat) : List V := xs.map fun x : Nat => V.int (x : Int)
theorem rd_near_of {K : PySem.W.Frag} : ∀ vs H Q E, sp_near_of vs H Q E → t_near_of K { nx := fun _ H' => Q .non H', rt := Q } (L2.start N_near_of vs) H := by
  rintro vs H Q E ⟨F, ds, Φ, e, r, ⟨W, rfl, ok, hΦ⟩, q⟩
  have o1 := ok.lo; have o2 := ok.hi
  obtain ⟨w, t, xs, rfl, hw, ht, rx⟩ : ∃ w t xs, vs = [.ref w] ∧ F w = some (.tup [.int W.n, .ref t]) ∧ F t = some (.tup xs) ∧ RpA F xs (W.ts.map tD) := by
    cases r with
    | cons r1 r2 =>
      cases r2
      cases r1 with
      | tup a b =>
        cases b with
        | cons b1 b2 =>
          cases b2 with
          | cons b3 b4 =>
            cases b4; cases b1
            cases b3 with
            | tup c d => exact ⟨_, _, _, rfl, a, c, d⟩
  unfold t_near_of
  refine ⟨.ref w, rfl, w, _, 0, .int W.n, rfl, rfl, .inl (.inl (e _ _ hw)), rfl, (W.n : Int), rfl, by omega, by omega, ?_⟩
  rw [Int.toNat_natCast]
  intro D hD
  refine lc_it walk_range (fun i H2 => ∃ bs : List Addr, bs.length = i ∧ H2 D = some (.lst (bs.map .ref)) ∧ Same H H2 ∧ bs.Nodup ∧ ∀ b ∈ bs, b ≠ D ∧ H b = none ∧ H2 b = some (.lst [])) ?_ (fun _ _ _ _ => trivial) ?_ ?_
  · exact ⟨[], rfl, upd_same, fun b u h => by rw [upd_ne (ne_of_none h hD)]; exact h, List.nodup_nil, fun _ h => nomatch h⟩
  · rintro i x H2 H3 hi ⟨bs, hl, h1, h2, h3, h4⟩ hy
    obtain ⟨rfl, rfl⟩ := hy
    refine ⟨rfl, ?_⟩
    simp only [tYes, ↓reduceIte]
    refine ⟨by decide, fun p hp => ⟨bs.map .ref, ?_, ?_, bs ++ [p], by simp [hl], ?_, ?_, ?_, ?_⟩⟩
    · rw [upd_ne (fun z => by rw [← z, h1] at hp; cases hp)]; exact h1
    · rw [List.length_map, hl]; exact szlt (by omega)
    · rw [List.map_append]; exact upd_same
    · intro b u h
      have hb := h2 b u h
      rw [upd_ne (ne_of_none h hD), upd_ne (ne_of_none hb hp)]; exact hb
    · refine List.nodup_append.mpr ⟨h3, by simp, ?_⟩
      intro a ha b hb
      rw [List.mem_singleton.mp hb]
      intro z
      have := (h4 a ha).2.2
      rw [z, hp] at this; cases this
    · intro b hb
      rcases List.mem_append.mp hb with hb | hb
      · obtain ⟨k1, k2, k3⟩ := h4 b hb
        refine ⟨k1, k2, ?_⟩
        rw [upd_ne k1, upd_ne (ne_of_none k3 hp)]; exact k3
      · rw [List.mem_singleton.mp hb]
        have pD : p ≠ D := fun z => by rw [z, h1] at hp; cases hp
        refine ⟨pD, ?_, ?_⟩
        · cases hh : H p with
          | none => rfl
          | some o => rw [h2 _ _ hh] at hp; cases hp
        · rw [upd_ne pD]; exact upd_same
  · rintro H2 ⟨bs, hl, h1, h2, h3, h4⟩
    show tSeq _ _ _ [some (.ref w), some (.ref D), none, none, none, none] H2
    refine ⟨.ref w, rfl, w, _, 1, .ref t, rfl, rfl, .inl (.inl (h2 _ _ (e _ _ hw))), rfl, t, rfl, ⟨xs, .inl (.inl (h2 _ _ (e _ _ ht)))⟩, ?_⟩
    have hxl : xs.length = W.ts.length := by rw [rx.len, List.length_map]
    have wt := @walk_tup K t xs
    rw [hxl] at wt
    refine for_it wt (fun i σ H3 => ∃ s2 s3, σ = [some (.ref w), some (.ref D), s2, s3, none, none] ∧ H3 D = some (.lst (bs.map .ref)) ∧ Same H H3 ∧ ∀ (k : Nat) b, bs[k]? = some b → H3 b = some (.lst (intsN (nbL (W.ts.take i) k)))) ?_ ?_ ?_ ?_
    · exact ⟨none, none, rfl, h1, h2, fun k b hb => (h4 b (List.mem_of_getElem? hb)).2.2⟩
    · rintro i σ H3 hi ⟨s2, s3, rfl, k1, k2, k3⟩
      exact .inl (.inl (k2 _ _ (e _ _ ht)))
    · rintro i x σ H3 H4 hi ⟨s2, s3, rfl, k1, k2, k3⟩ ⟨rfl, hx⟩
      obtain ⟨d, hd, rd⟩ := rx.get hx
      rw [List.getElem?_map] at hd
      obtain ⟨⟨a, b⟩, hab, rfl⟩ := Option.map_eq_some_iff.mp hd
      have hm : (a, b) ∈ W.ts := List.mem_of_getElem? hab
      obtain ⟨t1, t2⟩ := ok.tie _ hm
      simp only at t1 t2
      have htk : W.ts.take (i + 1) = W.ts.take i ++ [(a, b)] := by rw [List.take_add_one, hab]; rfl
      have la : a < bs.length := by omega
      have lb : b < bs.length := by omega
      have ga := List.getElem?_eq_getElem la
      have gb := List.getElem?_eq_getElem lb
      have nab : bs[a] ≠ bs[b] := fun z => by
        have := (List.getElem?_inj la h3).mp (ga.trans ((congrArg some z).trans gb.symm))
        omega
      have len : ∀ k, (intsN (nbL (W.ts.take i) k)).length < sizeLine := fun k => by
        rw [List.length_map]
        have h5 := nbL_len (ts := W.ts.take i) (k := k)
        have h6 := ok.len
        rw [List.length_take] at h5
        exact szlt (by omega)
      have hDa : bs[a] ≠ D := (h4 _ (List.getElem_mem la)).1
      have hDb : bs[b] ≠ D := (h4 _ (List.getElem_mem lb)).1
      have at_a : atI (bs.map V.ref) (a : Int) = some (.ref bs[a]) := atI_nat (by rw [List.getElem?_map, ga]; rfl)
      have at_b : atI (bs.map V.ref) (b : Int) = some (.ref bs[b]) := atI_nat (by rw [List.getElem?_map, gb]; rfl)
      cases rd with
      | @tup c ys _ hc ry =>
      have ey : ys = [.int (a : Int), .int (b : Int)] := RpA.ints (ns := [(a : Int), (b : Int)]) ry
      subst ey
      refine ⟨c, _, rfl, .inl (.inl (k2 _ _ (e _ _ hc))), rfl, _, _, rfl, _, _, rfl, rfl, ?_⟩
      show tSeq _ _ _ [some (.ref w), some (.ref D), some (.int (a : Int)), some (.int (b : Int)), none, none] H4
      refine ⟨.ref D, rfl, .int (a : Int), rfl, D, _, (a : Int), .ref bs[a], rfl, rfl, SqL.of k1, at_a, ?_⟩
      refine ⟨.inl ⟨rfl, _, .of (k3 a _ ga)⟩, .int (b : Int), rfl, bs[a], _, _, rfl, rfl, k3 a _ ga, len a, ?_⟩
      refine ⟨.ref D, rfl, .int (b : Int), rfl, D, _, (b : Int), .ref bs[b], rfl, rfl, SqL.of (by rw [upd_ne (fun z => hDa z.symm)]; exact k1), at_b, ?_⟩
      have kb := k3 b _ gb
      have kb' : upd H4 bs[a] (.lst (intsN (nbL (W.ts.take i) a) ++ [V.int (b : Int)])) bs[b] = some (.lst (intsN (nbL (W.ts.take i) b))) := by
        rw [upd_ne (fun z => nab z.symm)]; exact kb
      refine ⟨.inl ⟨rfl, _, .of kb'⟩, .int (a : Int), rfl, bs[b], _, _, rfl, rfl, kb', len b, ?_⟩
      refine ⟨_, _, rfl, ?_, ?_, ?_⟩
      · rw [upd_ne (fun z => hDb z.symm), upd_ne (fun z => hDa z.symm)]; exact k1
      · intro c u h
        have hc := k2 c u h
        rw [upd_ne (ne_of_none h (h4 _ (List.getElem_mem lb)).2.1), upd_ne (ne_of_none h (h4 _ (List.getElem_mem la)).2.1)]; exact hc
      · intro k c hk
        rw [htk]
        have lk : k < bs.length := (List.getElem?_eq_some_iff.mp hk).1
        by_cases e1 : k = b
        · subst e1
          have : c = bs[k] := by rw [gb] at hk; exact (Option.some.inj hk).symm
          subst this
          rw [upd_same]
          unfold nbL intsN
          rw [List.filterMap_append, List.map_append]
          have : ¬ a = k := by omega
          simp [this]
        · have cb : c ≠ bs[b] := fun z => by
            rw [z] at hk
            exact e1 ((List.getElem?_inj lk h3).mp (hk.trans gb.symm))
          rw [upd_ne cb]
          by_cases e2 : k = a
          · subst e2
            have : c = bs[k] := by rw [ga] at hk; exact (Option.some.inj hk).symm
            subst this
            rw [upd_same]
            unfold nbL intsN
            rw [List.filterMap_append, List.map_append]
            simp
          · have ca : c ≠ bs[a] := fun z => by
              rw [z] at hk
              exact e2 ((List.getElem?_inj lk h3).mp (hk.trans ga.symm))
            rw [upd_ne ca, k3 k c hk]
            unfold nbL intsN
            rw [List.filterMap_append, List.map_append]
            have g1 : ¬ a = k := fun z => e2 z.symm
            have g2 : ¬ b = k := fun z => e1 z.symm
            simp [g1, g2]
    · rintro σ H3 ⟨s2, s3, rfl, k1, k2, k3⟩
      rw [List.take_length] at k3
      show tRet (tLc (iList K (tVar 1)) (gName 5) tYes (tCB (rSortedI K) (tCons (tVar 5) tNil)) [5]) { nx := fun _ H' => Q .non H', rt := Q } [some (.ref w), some (.ref D), s2, s3, none, none] H3
      refine fin_raw (K := K) (σ := [some (.ref w), some (.ref D), s2, s3, none, none]) (as := [.d (webD W), .d (.list ((List.range W.n).map fun k => nbD (nbL W.ts k))), .e, .e, .e, .e]) (Φ := Φ) e k2 ⟨rfl, ?_, ?_⟩ ?_ q
      · have nF : ∀ {a : Addr}, H a = none → (fun a => match H a with | none => H3 a | some _ => F a) a = H3 a := fun h => by simp only [h]
        have eF : Same F (fun a => match H a with | none => H3 a | some _ => F a) := fun a u h => by simp only [e _ _ h]; exact h
        intro j o s h1' h2'
        match j with
        | 0 => cases h1'; cases h2'; exact ⟨_, rfl, Rp.mono eF _ (by cases r with | cons r1 r2 => exact r1)⟩
        | 1 =>
          cases h1'; cases h2'
          refine ⟨_, rfl, .lst ((nF hD).trans k1) ?_⟩
          refine rpa_of (by rw [List.length_map, List.length_map, List.length_range, hl]) fun k v d hv hd => ?_
          rw [List.getElem?_map] at hv hd
          obtain ⟨b, hb, rfl⟩ := Option.map_eq_some_iff.mp hv
          obtain ⟨k', hk', rfl⟩ := Option.map_eq_some_iff.mp hd
          have : k' = k := by
            have hlt := (List.getElem?_eq_some_iff.mp hk').1
            rw [List.getElem?_eq_getElem hlt, List.getElem_range] at hk'
            exact (Option.some.inj hk').symm
          subst this
          refine .lst ((nF (h4 b (List.mem_of_getElem? hb)).2.1).trans (k3 _ b hb)) ?_
          rw [map_nD]
          have := RpA.ofInts (F := fun a => match H a with | none => H3 a | some _ => F a) ((nbL W.ts k').map Int.ofNat)
          rw [List.map_map] at this
          exact this
        | 2 => cases h2'; trivial
        | 3 => cases h2'; trivial
        | 4 => cases h2'; trivial
        | 5 => cases h2'; trivial
        | j + 6 => cases h2'
      · intro i j a u w' h1' _
        exfalso
        match i with
        | 0 => cases h1'
        | 1 => cases h1'
        | 2 => cases h1'
        | 3 => cases h1'
        | 4 => cases h1'
        | 5 => cases h1'
        | j + 6 => cases h1'
      · walk_at "go"
        refine ev_lcM (fun k : Nat => nbD (nbL W.ts k)) (fun k => nbD (W.nb k)) (js := [5]) (by decide) ?_
        walk_at "go"
        refine ⟨_, rfl, _, rfl, by simp; omega, ?_, hΦ⟩
        intro k hk
        walk_at "go"
        refine ⟨(nbL W.ts k).map Int.ofNat, by unfold nbD; rw [map_nD], fun ms pm sm => ⟨?_, rfl⟩⟩
        rw [sort_nat pm sm (nb_perm ok k) (nb_lt W k)]
        unfold nbD
        rw [map_nD]
end Lp


set_option Elab.async false
set_option linter.all false
set_option maxRecDepth 100000
set_option maxHeartbeats 4000000
/-! Lp: reached, is_joined, ways_from: lists of neighbours of any kind. -/
namespace Lp
open PySem PySem.Spec L2
local macro_rules | `(tactic| walk_at "e1") => `(tactic| first
  | (with_reducible refine y_seq ?_) | (with_reducible refine ev_var (by with_unfolding_all rfl) ?_) | (with_reducible refine ev_int ?_) | (with_reducible refine ev_bl ?_) | (with_reducible refine ev_non ?_) | (with_reducible refine ev_str ?_)
  | (with_reducible refine y_ret ?_) | (with_reducible refine y_retN ?_) | (with_reducible refine y_next ?_) | (with_reducible refine x_if ?_) | (with_reducible refine y_setM (em_call ?_)) | (with_reducible refine y_set ?_) | (with_reducible refine y_drop ?_)
  | (with_reducible refine eb_test ?_) | (with_reducible refine eb_B ?_) | (with_reducible refine eb_not ?_) | (with_reducible refine eb_and ?_) | (with_reducible refine eb_or ?_) | (with_reducible refine eb_yes ?_)
  | (with_reducible refine ev_and ?_) | (with_reducible refine ev_or ?_) | (with_reducible refine ev_not ?_) | (with_reducible refine ev_if ?_)
  | (with_reducible refine ev_I ?_) | (with_reducible refine ev_BI ?_) | (with_reducible refine ev_IC ?_) | (with_reducible refine ev_chainB ?_) | (with_reducible refine ev_un ?_)
  | (with_reducible refine ev_ixL ?_) | (with_reducible refine ev_ixT ?_) | (with_reducible refine ev_isi ?_) | (with_reducible refine ev_isN ?_) | (with_reducible refine ev_notN ?_) | (with_reducible refine ev_isB ?_) | (with_reducible refine ev_notB ?_)
  | (with_reducible refine ev_eqG ?_) | (with_reducible refine ev_neG ?_) | (with_reducible refine ev_eqD ?_) | (with_reducible refine ev_neD ?_)
  | (with_reducible refine ev_slen (by with_unfolding_all rfl) ?_) | (with_reducible refine ev_olen (by with_unfolding_all rfl) ?_) | (with_reducible refine ev_oixC (by with_unfolding_all rfl) (by with_unfolding_all rfl) (by with_unfolding_all rfl) ?_) | (with_reducible refine ev_len ?_) | (with_reducible refine ev_tup ?_) | (with_reducible refine ev_lst ?_) | (with_reducible refine ea_nil ?_) | (with_reducible refine ea_cons ?_) | (with_reducible refine ea_star ?_)
  | (with_reducible refine ev_call ?_) | (with_reducible refine em_call ?_) | (with_reducible refine em_var (by with_unfolding_all rfl) ?_) | (with_reducible refine ev_max2 ?_) | (with_reducible refine ev_min2 ?_) | (with_reducible refine ev_abs ?_)
  | (with_reducible refine ev_all ?_) | (with_reducible refine ev_any ?_) | (with_reducible refine ev_sum ?_) | (with_reducible refine ev_max ?_) | (with_reducible refine ev_min ?_) | (with_reducible refine ev_tupOf ?_)
  | (with_reducible refine ev_sortedI ?_) | (with_reducible refine ev_sortedP ?_) | (with_reducible refine ev_sortedD ?_) | (with_reducible refine ev_maxVals ?_) | (with_reducible refine ev_dget ?_) | (with_reducible refine ev_dget1 ?_) | (with_reducible refine ev_din ?_) | (with_reducible refine ev_dnotin ?_)
  | (with_reducible refine ev_slL ?_) | (with_reducible refine ev_slT ?_) | (with_reducible refine eo_none ?_) | (with_reducible refine eo_some ?_) | (with_reducible refine ev_cat ?_) | (with_reducible refine ev_ltT ?_) | (with_reducible refine ev_inI ?_)
  | (with_reducible refine ei_list ?_) | (with_reducible refine ei_tup ?_) | (with_reducible refine ei_rng1 ?_) | (with_reducible refine ei_rng2 ?_) | (with_reducible refine ei_zip ?_) | (with_reducible refine eg_name ?_) | (with_reducible refine eg_tup ?_) | (with_reducible refine egs_name ?_) | (with_reducible refine egs_nil ?_)
  | (with_reducible refine x_never ?_))
local macro_rules | `(tactic| walk_at "e") => `(tactic| first | walk_at "e1" | exact ⟨_, _, rfl, rfl, rfl⟩ | (refine ⟨_, _, rfl, rfl, ?_⟩) | (refine ⟨_, rfl, ?_⟩))
local macro_rules | `(tactic| walk_at "go") => `(tactic| repeat walk_at "e1")
/-! ### lists of neighbours -/
abbrev Nb := List (List Nat)
def nearL (N : Nb) : PyData := .list (N.map nbD)
def step (N : Nb) (x : Nat) : List Nat := (N[x]?).getD []
structure Nb.Ok (N : Nb) : Prop where
  hi : N.length ≤ 60
  lt : ∀ x y, y ∈ step N x → y < N.length
  sz : ∀ x, (step N x).length ≤ 1600
theorem near_at {N : Nb} {x : Nat} (h : x < N.length) : atI (N.map nbD) (x : Int) = some (nbD (step N x)) := by
  refine atI_nat ?_
  rw [List.getElem?_map, List.getElem?_eq_getElem h]
  unfold step
  rw [List.getElem?_eq_getElem h]
  rfl
/-! ### dicts from ints to ints -/
def encK (ks : List Nat) (d : Nat → Nat) : List (Key × V) := ks.map fun (y : Nat) => (Sum.inl (y : Int), V.int (d y : Int))
theorem valV_encK (ks : List Nat) (d : Nat → Nat) (y : Nat) : valV (encK ks d) (.inl (y : Int)) = if y ∈ ks then some (V.int (d y : Int)) else none := by
  unfold valV encK
  induction ks with
  | nil => rfl
  | cons k ks ih =>
    rw [List.map_cons, List.find?_cons]
    by_cases h : k = y
    · subst h; simp
    · have h' : ¬ ((Sum.inl (k : Int) : Key) = .inl (y : Int)) := fun z => h (by injection z with z; omega)
      simp only [h', decide_false]
      rw [ih]
      have : (y ∈ k :: ks) ↔ y ∈ ks := by
        simp only [List.mem_cons]; exact ⟨fun z => z.resolve_left fun q => h q.symm, .inr⟩
      simp only [this]
theorem valV_some (ks : List Nat) (d : Nat → Nat) (y : Nat) : (valV (encK ks d) (.inl (y : Int))).isSome = decide (y ∈ ks) := by
  rw [valV_encK]
  by_cases h : y ∈ ks <;> simp [h]
theorem putK_encK (ks : List Nat) (d : Nat → Nat) (y m : Nat) (h : y ∉ ks) : putK (encK ks d) (.inl (y : Int)) (V.int (m : Int)) = encK (ks ++ [y]) (fun z => if z = y then m else d z) := by
  unfold putK
  have h1 : ((encK ks d).any fun kv => decide (kv.fst = (Sum.inl (y : Int) : Key))) = false := by
    rw [List.any_eq_false]
    intro kv hkv
    unfold encK at hkv
    obtain ⟨k, hk, rfl⟩ := List.mem_map.mp hkv
    simp only [decide_eq_true_eq]
    intro z
    injection z with z
    exact h (by rw [show y = k by omega]; exact hk)
  rw [h1]
  simp only [Bool.false_eq_true, ↓reduceIte]
  unfold encK
  rw [List.map_append]
  congr 1
  · refine List.map_congr_left fun k hk => ?_
    have : k ≠ y := fun z => h (by rw [← z]; exact hk)
    simp [this]
  · simp
theorem encK_fst (ks : List Nat) (d : Nat → Nat) : (encK ks d).map (·.1) = (ks.map Int.ofNat).map Sum.inl := by
  unfold encK; rw [List.map_map, List.map_map]; rfl
theorem encK_snd (ks : List Nat) (d : Nat → Nat) : (encK ks d).map (·.2) = (ks.map fun (y : Nat) => ((d y : Nat) : Int)).map V.int := by
  unfold encK; rw [List.map_map, List.map_map]; rfl
theorem encK_len (ks : List Nat) (d : Nat → Nat) : (encK ks d).length = ks.length := by unfold encK; rw [List.length_map]
theorem nodup_len {n : Nat} {ks : List Nat} (h : ks.Nodup) (hl : ∀ y ∈ ks, y < n) : ks.length ≤ n := by
  have := List.Nodup.length_le_of_subset h (l₂ := List.range n) fun x hx => List.mem_range.mpr (hl x hx)
  simpa using this
/-! ### ways -/
/-- what ways_from tells: places and how far they are -/
structure Bfs (N : Nb) (s : Nat) (ks : List Nat) (d : Nat → Nat) : Prop where
  nodup : ks.Nodup
  lt : ∀ y ∈ ks, y < N.length
  s_in : s ∈ ks
  s0 : d s = 0
  clo : ∀ x ∈ ks, ∀ y ∈ step N x, y ∈ ks ∧ d y ≤ d x + 1
  par : ∀ y ∈ ks, y ≠ s → ∃ x ∈ ks, y ∈ step N x ∧ d y = d x + 1
/-- within a line at l: the places of done have their neighbours in -/
structure Mid (N : Nb) (s l : Nat) (line : List Nat) (done : Nat → Prop) (ks later : List Nat) (d : Nat → Nat) : Prop where
  nodup : ks.Nodup
  lt : ∀ y ∈ ks, y < N.length
  s_in : s ∈ ks
  s0 : d s = 0
  bnd : ∀ y ∈ ks, d y ≤ l + 1
  lat : ∀ x, x ∈ later ↔ x ∈ ks ∧ d x = l + 1
  lin : ∀ x, x ∈ line ↔ x ∈ ks ∧ d x = l
  cl0 : ∀ x ∈ ks, d x < l → ∀ y ∈ step N x, y ∈ ks ∧ d y ≤ d x + 1
  cl1 : ∀ x ∈ line, done x → ∀ y ∈ step N x, y ∈ ks
  par : ∀ y ∈ ks, y ≠ s → ∃ x ∈ ks, y ∈ step N x ∧ d y = d x + 1
theorem Mid.add {N : Nb} {s l : Nat} {line : List Nat} {done : Nat → Prop} {ks later : List Nat} {d : Nat → Nat} (h : Mid N s l line done ks later d) (ok : N.Ok) {x y : Nat} (hx : x ∈ line) (hy : y ∈ step N x) (hn : y ∉ ks) :
    Mid N s l line done (ks ++ [y]) (later ++ [y]) (fun z => if z = y then l + 1 else d z) := by
  have ne : ∀ z ∈ ks, z ≠ y := fun z hz e => hn (e ▸ hz)
  have up : ∀ z ∈ ks, (if z = y then l + 1 else d z) = d z := fun z hz => if_neg (ne z hz)
  have xk := (h.lin x).mp hx
  refine ⟨?_, ?_, ?_, ?_, ?_, ?_, ?_, ?_, ?_, ?_⟩
  · refine List.nodup_append.mpr ⟨h.nodup, by simp, ?_⟩
    intro a ha b hb
    rw [List.mem_singleton.mp hb]
    exact ne a ha
  · intro z hz
    rcases List.mem_append.mp hz with hz | hz
    · exact h.lt z hz
    · rw [List.mem_singleton.mp hz]; exact ok.lt x y hy
  · exact List.mem_append_left _ h.s_in
  · show (if s = y then l + 1 else d s) = 0
    rw [up s h.s_in]; exact h.s0
  · intro z hz
    show (if z = y then l + 1 else d z) ≤ l + 1
    rcases List.mem_append.mp hz with hz | hz
    · rw [up z hz]; exact h.bnd z hz
    · rw [List.mem_singleton.mp hz]; simp
  · intro z
    show z ∈ later ++ [y] ↔ z ∈ ks ++ [y] ∧ (if z = y then l + 1 else d z) = l + 1
    rw [List.mem_append, List.mem_append, List.mem_singleton]
    by_cases e : z = y
    · simp [e]
    · simp only [e, or_false, if_false]; exact h.lat z
  · intro z
    show z ∈ line ↔ z ∈ ks ++ [y] ∧ (if z = y then l + 1 else d z) = l
    rw [List.mem_append, List.mem_singleton, h.lin z]
    by_cases e : z = y
    · subst e; simp [hn]
    · simp [e]
  · intro z hz hd w hw
    have hd : (if z = y then l + 1 else d z) < l := hd
    rcases List.mem_append.mp hz with hz | hz
    · rw [up z hz] at hd
      obtain ⟨h1, h2⟩ := h.cl0 z hz hd w hw
      refine ⟨List.mem_append_left _ h1, ?_⟩
      show (if w = y then l + 1 else d w) ≤ (if z = y then l + 1 else d z) + 1
      rw [up w h1, up z hz]; exact h2
    · rw [List.mem_singleton.mp hz, if_pos rfl] at hd; omega
  · intro z hz hd w hw
    exact List.mem_append_left _ (h.cl1 z hz hd w hw)
  · intro z hz hs
    rcases List.mem_append.mp hz with hz | hz
    · obtain ⟨w, h1, h2, h3⟩ := h.par z hz hs
      refine ⟨w, List.mem_append_left _ h1, h2, ?_⟩
      show (if z = y then l + 1 else d z) = (if w = y then l + 1 else d w) + 1
      rw [up w h1, up z hz]; exact h3
    · rw [List.mem_singleton.mp hz]
      refine ⟨x, List.mem_append_left _ xk.1, hy, ?_⟩
      show (if y = y then l + 1 else d y) = (if x = y then l + 1 else d x) + 1
      rw [up x xk.1, xk.2]; simp
theorem Mid.more {N : Nb} {s l : Nat} {line : List Nat} {done done' : Nat → Prop} {ks later : List Nat} {d : Nat → Nat} (h : Mid N s l line done ks later d) (k : ∀ x ∈ line, done' x → done x ∨ ∀ y ∈ step N x, y ∈ ks) : Mid N s l line done' ks later d :=
  { h with cl1 := fun x hx hd y hy => (k x hx hd).elim (fun z => h.cl1 x hx z y hy) fun z => z y hy }
theorem Mid.next {N : Nb} {s l : Nat} {line : List Nat} {ks later : List Nat} {d : Nat → Nat} (h : Mid N s l line (fun _ => True) ks later d) : Mid N s (l + 1) later (fun _ => False) ks [] d := by
  refine ⟨h.nodup, h.lt, h.s_in, h.s0, fun y hy => Nat.le_succ_of_le (h.bnd y hy), fun x => ⟨fun z => (nomatch z), fun ⟨z1, z2⟩ => ?_⟩, h.lat, ?_, fun _ _ z => z.elim, h.par⟩
  · have := h.bnd x z1; omega
  · intro x hx hd y hy
    by_cases e : d x < l
    · exact h.cl0 x hx e y hy
    · have e : d x = l := by omega
      have := h.cl1 x ((h.lin x).mpr ⟨hx, e⟩) trivial y hy
      exact ⟨this, by rw [e]; exact h.bnd y this⟩
theorem Mid.bfs {N : Nb} {s l : Nat} {ks : List Nat} {d : Nat → Nat} (h : Mid N s l [] (fun _ => False) ks [] d) : Bfs N s ks d := by
  refine ⟨h.nodup, h.lt, h.s_in, h.s0, fun x hx y hy => h.cl0 x hx ?_ y hy, h.par⟩
  have h1 := h.bnd x hx
  have h2 : d x ≠ l + 1 := fun z => by have := (h.lat x).mpr ⟨hx, z⟩; cases this
  have h3 : d x ≠ l := fun z => by have := (h.lin x).mpr ⟨hx, z⟩; cases this
  omega
theorem nbD_ne {xs : List Nat} : (!PyData.eqv (nbD xs) (.list [])) = decide (xs ≠ []) := by
  cases xs with
  | nil => rfl
  | cons x xs => rfl
def A_ways_from (ds : List PyData) (Φ : List (Key × V) → Prop) : Prop := ∃ (N : Nb) (s : Nat), ds = [nearL N, nD s] ∧ N.Ok ∧ s < N.length ∧ ∀ ks d, Bfs N s ks d → Φ (encK ks d)
abbrev sp_ways_from : Sp := spM A_ways_from
def t_ways_from (K : PySem.W.Frag) : TS := (tSeq (tPar 2 3 (tCons (tDisp [((tVar 1), (tC (.int 0)))]) (tCons (tLst (tCons (tVar 1) tNil)) tNil))) (tSeq (tWhile (tTest (tOp (rNeD K) (tVar 3) (tLst tNil))) (tSeq (tAsg (tLst tNil) (gName 4)) (tSeq (tFor (iList K (tVar 3)) (gName 5) (tFor (iList K (tOp (rIxL K) (tVar 0) (tVar 5))) (gName 6) (tIfS (tB (tDNotIn (tVar 6) (tVar 2))) (tSeq (sDPut (tVar 2) (tVar 6) (tOp (rI0 fun i j => .int (i + j)) (tDGet (tVar 2) (tVar 5)) (tC (.int 1)))) (tDrop (tBM K "list" rAppend (tVar 4) (tCons (tVar 6) tNil)))) tNext))) (tAsg (tVar 4) (gName 3))))) (tRet (tVar 2))))
def N_ways_from : List Str := ["near", "start", "found", "line", "later", "place", "other"]
theorem len_ways_from : ∀ vs H Q E, sp_ways_from vs H Q E → vs.length = (["near", "start"] : List Str).length := lenM fun ds Φ h => by
  obtain ⟨N, s, rfl, ok, hs, h⟩ := h; rfl
theorem rd_ways_from {K : PySem.W.Frag} : ∀ vs H Q E, sp_ways_from vs H Q E → t_ways_from K { nx := fun _ H' => Q .non H', rt := Q } (L2.start N_ways_from vs) H := rd_M fun ds Φ h => by
  obtain ⟨N, s, rfl, ok, hs, h⟩ := h
  show Ex K _ _ [.d (nearL N), .d (nD s), .e, .e, .e, .e, .e]
  unfold t_ways_from
  have hN := ok.hi
  refine y_seq (y_parNN (by decide) ?_)
  refine en_disp1 ?_
  walk_at "go"
  refine ⟨.inl s, rfl, ?_⟩
  walk_at "go"
  refine ⟨_, rfl, ?_⟩
  refine en_lst ?_
  walk_at "go"
  refine ⟨by simp, fun a b => ?_⟩
  refine x_freeze (j := 3) rfl ?_
  refine y_seq (y_while (fun m as' => ∃ l line ks d s4 s5 s6, as' = [.d (nearL N), .d (nD s), .o a (.dct (encK ks d)), .d (nbD line), s4, s5, s6] ∧ Mid N s l line (fun _ => False) ks [] d ∧ m = 2 * (N.length - ks.length) + line.length) (2 * (N.length - 1) + 1) ?_ ?_)
  · refine ⟨0, [s], [s], fun _ => 0, .e, .e, .e, rfl, ?_, rfl⟩
    refine ⟨by simp, by simp; exact hs, by simp, rfl, by simp, by simp, by simp, by simp, fun _ _ z => z.elim, by simp⟩
  · rintro m as' ⟨l, line, ks, d, s4, s5, s6, rfl, hm, rfl⟩
    refine eb_peek ?_
    walk_at "go"
    refine ⟨by simp, (shp_nbD line).ok, rfl, ?_⟩
    rw [nbD_ne]
    refine ⟨_, rfl, fun hb => ?_, fun hb => ?_⟩
    · have hb := of_decide_eq_true hb
      refine y_seq (y_setN (en_lst ?_))
      walk_at "go"
      refine ⟨by simp, fun c => ?_⟩
      refine y_seq (y_for (js := [5]) ?_)
      walk_at "go"
      refine ⟨_, rfl, fun i as' => ∃ ks' later d' s5 s6, as' = [.d (nearL N), .d (nD s), .o a (.dct (encK ks' d')), .d (nbD line), .o c (.lst (later.map nD)), s5, s6] ∧ Mid N s l line (fun x => x ∈ line.take i) ks' later d' ∧ ks'.length = ks.length + later.length, ?_, ?_, ?_⟩
      · exact ⟨ks, [], d, s5, s6, rfl, hm.more fun x _ hx => by simp at hx, rfl⟩
      · rintro i x as' hx ⟨ks', later, d', s5, s6, rfl, hm', hk⟩
        rw [List.getElem?_map] at hx
        obtain ⟨p, hp, rfl⟩ := Option.map_eq_some_iff.mp hx
        have hpl : p ∈ line := List.mem_of_getElem? hp
        have hpn : p < N.length := hm'.lt p ((hm'.lin p).mp hpl).1
        walk_at "go"
        refine y_for (js := [6]) ?_
        walk_at "go"
        refine ⟨_, p, _, rfl, rfl, near_at hpn, _, rfl, fun j as' => ∃ ks' later d' s6, as' = [.d (nearL N), .d (nD s), .o a (.dct (encK ks' d')), .d (nbD line), .o c (.lst (later.map nD)), .d (nD p), s6] ∧ Mid N s l line (fun x => x ∈ line.take i) ks' later d' ∧ ks'.length = ks.length + later.length ∧ ∀ y ∈ (step N p).take j, y ∈ ks', ?_, ?_, ?_⟩
        · exact ⟨ks', later, d', s6, rfl, hm', hk, by simp⟩
        · rintro j x as' hx ⟨ks', later, d', s6, rfl, hm', hk, hj⟩
          rw [List.getElem?_map] at hx
          obtain ⟨y, hy, rfl⟩ := Option.map_eq_some_iff.mp hx
          have hyp : y ∈ step N p := List.mem_of_getElem? hy
          have hyn := ok.lt p y hyp
          have tk : (step N p).take (j + 1) = (step N p).take j ++ [y] := by rw [List.take_add_one, hy]; rfl
          refine eg_name (x_if (eb_peek ?_))
          walk_at "go"
          refine ⟨.inl y, rfl, ?_⟩
          rw [valV_some]
          refine ⟨_, rfl, fun hb => ?_, fun hb => ?_⟩
          · have hb : y ∉ ks' := by simpa using hb
            have hm2 := hm'.add ok hpl hyp hb
            have pk := ((hm'.lin p).mp hpl)
            have klen := nodup_len hm'.nodup hm'.lt
            walk_at "go"
            refine y_dput rfl (ev_peek ?_)
            walk_at "go"
            refine ⟨.inl p, V.int (d' p : Int), .int (d' p : Int), rfl, ?_, rfl, ?_⟩
            · rw [valV_encK, if_pos pk.1]
            walk_at "go"
            refine ⟨_, _, rfl, rfl, rfl, _, rfl, ?_⟩
            walk_at "go"
            refine ⟨.inl y, _, rfl, rfl, by rw [encK_len]; omega, ?_⟩
            refine y_app rfl ?_
            walk_at "go"
            refine ⟨_, rfl, by rw [List.length_map]; omega, ?_⟩
            rw [pk.2]
            refine ⟨ks' ++ [y], later ++ [y], _, .d (nD y), ?_, hm2, by simp; omega, ?_⟩
            · rw [← putK_encK ks' d' y (l + 1) hb, List.map_append]
              rfl
            · intro z hz
              rw [tk] at hz
              rcases List.mem_append.mp hz with hz | hz
              · exact List.mem_append_left _ (hj z hz)
              · rw [List.mem_singleton.mp hz]; simp
          · have hb : y ∈ ks' := by simpa using hb
            refine y_next ⟨ks', later, d', _, rfl, hm', hk, ?_⟩
            intro z hz
            rw [tk] at hz
            rcases List.mem_append.mp hz with hz | hz
            · exact hj z hz
            · rw [List.mem_singleton.mp hz]; exact hb
        · rintro as' ⟨ks', later, d', s6, rfl, hm', hk, hj⟩
          refine ⟨ks', later, d', _, _, rfl, hm'.more fun x hxl hx => ?_, hk⟩
          rw [List.take_add_one, hp] at hx
          rcases List.mem_append.mp hx with hx | hx
          · exact .inl hx
          · refine .inr fun y hy => hj y ?_
            rw [List.length_map, List.take_length]
            have : x = p := by simpa using hx
            rw [← this]; exact hy
      · rintro as' ⟨ks', later, d', s5, s6, rfl, hm', hk⟩
        refine x_freeze (j := 4) rfl ?_
        walk_at "go"
        have klen := nodup_len hm'.nodup hm'.lt
        refine ⟨2 * (N.length - ks'.length) + later.length, ?_, l + 1, later, ks', d', _, _, _, rfl, (hm'.more fun x hx _ => .inl ?_).next, rfl⟩
        · have : 0 < line.length := List.length_pos_iff.mpr hb
          omega
        · rw [List.length_map, List.take_length]; exact hx
    · have hb : line = [] := by simpa using hb
      subst hb
      show Ex K _ _ _
      refine x_freezeD (j := 2) rfl (y_retM ?_)
      walk_at "go"
      exact h ks d hm.bfs
end Lp


set_option Elab.async false
set_option linter.all false
set_option maxRecDepth 100000
set_option maxHeartbeats 4000000
/-! Lp: reached, is_joined, what hangs together. -/
namespace Lp
open PySem PySem.Spec L2
local macro_rules | `(tactic| walk_at "e1") => `(tactic| first
  | (with_reducible refine y_seq ?_) | (with_reducible refine ev_var (by with_unfolding_all rfl) ?_) | (with_reducible refine ev_int ?_) | (with_reducible refine ev_bl ?_) | (with_reducible refine ev_non ?_) | (with_reducible refine ev_str ?_)
  | (with_reducible refine y_ret ?_) | (with_reducible refine y_retN ?_) | (with_reducible refine y_next ?_) | (with_reducible refine x_if ?_) | (with_reducible refine y_setM (em_call ?_)) | (with_reducible refine y_set ?_) | (with_reducible refine y_drop ?_)
  | (with_reducible refine eb_test ?_) | (with_reducible refine eb_B ?_) | (with_reducible refine eb_not ?_) | (with_reducible refine eb_and ?_) | (with_reducible refine eb_or ?_) | (with_reducible refine eb_yes ?_)
  | (with_reducible refine ev_and ?_) | (with_reducible refine ev_or ?_) | (with_reducible refine ev_not ?_) | (with_reducible refine ev_if ?_)
  | (with_reducible refine ev_I ?_) | (with_reducible refine ev_BI ?_) | (with_reducible refine ev_IC ?_) | (with_reducible refine ev_chainB ?_) | (with_reducible refine ev_un ?_)
  | (with_reducible refine ev_ixL ?_) | (with_reducible refine ev_ixT ?_) | (with_reducible refine ev_isi ?_) | (with_reducible refine ev_isN ?_) | (with_reducible refine ev_notN ?_) | (with_reducible refine ev_isB ?_) | (with_reducible refine ev_notB ?_)
  | (with_reducible refine ev_eqG ?_) | (with_reducible refine ev_neG ?_) | (with_reducible refine ev_eqD ?_) | (with_reducible refine ev_neD ?_)
  | (with_reducible refine ev_slen (by with_unfolding_all rfl) ?_) | (with_reducible refine ev_olen (by with_unfolding_all rfl) ?_) | (with_reducible refine ev_oixC (by with_unfolding_all rfl) (by with_unfolding_all rfl) (by with_unfolding_all rfl) ?_) | (with_reducible refine ev_len ?_) | (with_reducible refine ev_tup ?_) | (with_reducible refine ev_lst ?_) | (with_reducible refine ea_nil ?_) | (with_reducible refine ea_cons ?_) | (with_reducible refine ea_star ?_)
  | (with_reducible refine ev_call ?_) | (with_reducible refine em_call ?_) | (with_reducible refine em_var (by with_unfolding_all rfl) ?_) | (with_reducible refine ev_max2 ?_) | (with_reducible refine ev_min2 ?_) | (with_reducible refine ev_abs ?_)
  | (with_reducible refine ev_all ?_) | (with_reducible refine ev_any ?_) | (with_reducible refine ev_sum ?_) | (with_reducible refine ev_max ?_) | (with_reducible refine ev_min ?_) | (with_reducible refine ev_tupOf ?_)
  | (with_reducible refine ev_sortedI ?_) | (with_reducible refine ev_sortedP ?_) | (with_reducible refine ev_sortedD ?_) | (with_reducible refine ev_maxVals ?_) | (with_reducible refine ev_dget ?_) | (with_reducible refine ev_dget1 ?_) | (with_reducible refine ev_din ?_) | (with_reducible refine ev_dnotin ?_)
  | (with_reducible refine ev_slL ?_) | (with_reducible refine ev_slT ?_) | (with_reducible refine eo_none ?_) | (with_reducible refine eo_some ?_) | (with_reducible refine ev_cat ?_) | (with_reducible refine ev_ltT ?_) | (with_reducible refine ev_inI ?_)
  | (with_reducible refine ei_list ?_) | (with_reducible refine ei_tup ?_) | (with_reducible refine ei_rng1 ?_) | (with_reducible refine ei_rng2 ?_) | (with_reducible refine ei_zip ?_) | (with_reducible refine eg_name ?_) | (with_reducible refine eg_tup ?_) | (with_reducible refine egs_name ?_) | (with_reducible refine egs_nil ?_)
  | (with_reducible refine x_never ?_))
local macro_rules | `(tactic| walk_at "e") => `(tactic| first | walk_at "e1" | exact ⟨_, _, rfl, rfl, rfl⟩ | (refine ⟨_, _, rfl, rfl, ?_⟩) | (refine ⟨_, rfl, ?_⟩))
local macro_rules | `(tactic| walk_at "go") => `(tactic| repeat walk_at "e1")
def encV (ks : List Nat) (f : Nat → V) : List (Key × V) := ks.map fun (y : Nat) => (Sum.inl (y : Int), f y)
theorem valV_encV (ks : List Nat) (d : Nat → V) (y : Nat) : valV (encV ks d) (.inl (y : Int)) = if y ∈ ks then some (d y) else none := by
  unfold valV encV
  induction ks with
  | nil => rfl
  | cons k ks ih =>
    rw [List.map_cons, List.find?_cons]
    by_cases h : k = y
    · subst h; simp
    · have h' : ¬ ((Sum.inl (k : Int) : Key) = .inl (y : Int)) := fun z => h (by injection z with z; omega)
      simp only [h', decide_false]
      rw [ih]
      have : (y ∈ k :: ks) ↔ y ∈ ks := by
        simp only [List.mem_cons]; exact ⟨fun z => z.resolve_left fun q => h q.symm, .inr⟩
      simp only [this]
theorem valV_encV_some (ks : List Nat) (d : Nat → V) (y : Nat) : (valV (encV ks d) (.inl (y : Int))).isSome = decide (y ∈ ks) := by
  rw [valV_encV]
  by_cases h : y ∈ ks <;> simp [h]
theorem putK_encV (ks : List Nat) (d : Nat → V) (y : Nat) (m : V) (h : y ∉ ks) : putK (encV ks d) (.inl (y : Int)) m = encV (ks ++ [y]) (fun z => if z = y then m else d z) := by
  unfold putK
  have h1 : ((encV ks d).any fun kv => decide (kv.fst = (Sum.inl (y : Int) : Key))) = false := by
    rw [List.any_eq_false]
    intro kv hkv
    unfold encV at hkv
    obtain ⟨k, hk, rfl⟩ := List.mem_map.mp hkv
    simp only [decide_eq_true_eq]
    intro z
    injection z with z
    exact h (by rw [show y = k by omega]; exact hk)
  rw [h1]
  simp only [Bool.false_eq_true, ↓reduceIte]
  unfold encV
  rw [List.map_append]
  congr 1
  · refine List.map_congr_left fun k hk => ?_
    have : k ≠ y := fun z => h (by rw [← z]; exact hk)
    simp [this]
  · simp
theorem encV_fst (ks : List Nat) (d : Nat → V) : (encV ks d).map (·.1) = (ks.map Int.ofNat).map Sum.inl := by
  unfold encV; rw [List.map_map, List.map_map]; rfl
theorem encV_len (ks : List Nat) (d : Nat → V) : (encV ks d).length = ks.length := by unfold encV; rw [List.length_map]
/-- the places of ks, sorted -/
def srt (n : Nat) (ks : List Nat) : List Nat := (List.range n).filter fun y => decide (y ∈ ks)
theorem srt_lt (n : Nat) (ks : List Nat) : (srt n ks).Pairwise (· < ·) := (range_lt n).filter _
theorem mem_srt {n : Nat} {ks : List Nat} (h : ∀ y ∈ ks, y < n) {y : Nat} : y ∈ srt n ks ↔ y ∈ ks := by
  unfold srt
  simp only [List.mem_filter, List.mem_range, decide_eq_true_eq]
  exact ⟨fun z => z.2, fun z => ⟨h y z, z⟩⟩
theorem srt_perm {n : Nat} {ks : List Nat} (nd : ks.Nodup) (h : ∀ y ∈ ks, y < n) : (srt n ks).Perm ks :=
  (List.perm_ext_iff_of_nodup (nodup_lt (srt_lt n ks)) nd).mpr fun y => mem_srt h
theorem lt_unique {xs ys : List Nat} (hx : xs.Pairwise (· < ·)) (hy : ys.Pairwise (· < ·)) (h : ∀ z, z ∈ xs ↔ z ∈ ys) : xs = ys :=
  List.Perm.eq_of_pairwise (le := (· < ·)) (fun a b _ _ h1 h2 => absurd h1 (Nat.lt_asymm h2)) hx hy ((List.perm_ext_iff_of_nodup (nodup_lt hx) (nodup_lt hy)).mpr h)
inductive Rch (N : Nb) (bs : List Nat) (s : Nat) : Nat → Prop
  | refl : Rch N bs s s
  | step {x y : Nat} : Rch N bs s x → y ∈ step N x → y ∉ bs → Rch N bs s y
structure Rc (N : Nb) (bs : List Nat) (s : Nat) (op : Nat → Prop) (ks : List Nat) : Prop where
  nodup : ks.Nodup
  lt : ∀ y ∈ ks, y < N.length
  s_in : s ∈ ks
  clo : ∀ x ∈ ks, ¬ op x → ∀ y ∈ step N x, y ∈ bs ∨ y ∈ ks
  rch : ∀ y ∈ ks, Rch N bs s y
theorem Rc.add {N : Nb} {bs : List Nat} {s : Nat} {op : Nat → Prop} {ks : List Nat} (h : Rc N bs s op ks) (ok : N.Ok) {x y : Nat} (hx : x ∈ ks) (hy : y ∈ step N x) (hn : y ∉ ks) (hb : y ∉ bs) : Rc N bs s (fun z => op z ∨ z = y) (ks ++ [y]) := by
  refine ⟨?_, ?_, List.mem_append_left _ h.s_in, ?_, ?_⟩
  · refine List.nodup_append.mpr ⟨h.nodup, by simp, ?_⟩
    intro a ha b hb e
    rw [List.mem_singleton.mp hb] at e
    exact hn (e ▸ ha)
  · intro z hz
    rcases List.mem_append.mp hz with hz | hz
    · exact h.lt z hz
    · rw [List.mem_singleton.mp hz]; exact ok.lt x y hy
  · intro z hz ho w hw
    rw [not_or] at ho
    rcases List.mem_append.mp hz with hz | hz
    · exact (h.clo z hz ho.1 w hw).imp id (List.mem_append_left _)
    · exact absurd (List.mem_singleton.mp hz) ho.2
  · intro z hz
    rcases List.mem_append.mp hz with hz | hz
    · exact h.rch z hz
    · rw [List.mem_singleton.mp hz]; exact .step (h.rch x hx) hy hb
theorem Rc.more {N : Nb} {bs : List Nat} {s : Nat} {op op' : Nat → Prop} {ks : List Nat} (h : Rc N bs s op ks) (k : ∀ x ∈ ks, op x → op' x ∨ ∀ y ∈ step N x, y ∈ bs ∨ y ∈ ks) : Rc N bs s op' ks :=
  ⟨h.nodup, h.lt, h.s_in, fun x hx ho y hy => by
    by_cases e : op x
    · exact ((k x hx e).resolve_left ho) y hy
    · exact h.clo x hx e y hy, h.rch⟩
theorem Rc.iff {N : Nb} {bs : List Nat} {s : Nat} {ks : List Nat} (h : Rc N bs s (fun _ => False) ks) (y : Nat) : y ∈ ks ↔ Rch N bs s y := by
  refine ⟨h.rch y, fun r => ?_⟩
  induction r with
  | refl => exact h.s_in
  | step _ hy hb ih => exact (h.clo _ ih (fun z => z) _ hy).resolve_left hb
def A_reached (ds : List PyData) (Φ : PyData → Prop) : Prop := ∃ (N : Nb) (s : Nat) (B : PyData) (bs : List Nat), ds = [nearL N, nD s, B] ∧ seqD B = some (bs.map nD) ∧ N.Ok ∧ s < N.length ∧ ∀ zs : List Nat, zs.Pairwise (· < ·) → (∀ y, y ∈ zs ↔ Rch N bs s y) → (∀ y ∈ zs, y < N.length) → Φ (nbD zs)
abbrev sp_reached : Sp := spD A_reached
def t_reached (K : PySem.W.Frag) : TS := (tSeq (tPar 3 4 (tCons (tDisp [((tVar 1), (tC (.bl true)))]) (tCons (tLst (tCons (tVar 1) tNil)) tNil))) (tSeq (tWhile (tTest (tOp (rNeD K) (tVar 4) (tLst tNil))) (tFor (iList K (tOp (rIxL K) (tVar 0) (tBM0 K "list" rPop (tVar 4)))) (gName 5) (tIfS (tAnd (tB (tDNotIn (tVar 5) (tVar 3))) (tTest (tOp (rIn K true) (tVar 5) (tVar 2)))) (tSeq (sDPut (tVar 3) (tVar 5) (tC (.bl true))) (tDrop (tBM K "list" rAppend (tVar 4) (tCons (tVar 5) tNil)))) tNext))) (tRet (tCB rSortedDI (tCons (tVar 3) tNil)))))
def N_reached : List Str := ["near", "start", "barred", "found", "waiting", "place"]
theorem len_reached : ∀ vs H Q E, sp_reached vs H Q E → vs.length = (["near", "start", "barred"] : List Str).length := lenD fun ds Φ h => by
  obtain ⟨N, s, B, bs, rfl, hB, ok, hs, h⟩ := h; rfl
theorem rd_reached {K : PySem.W.Frag} : ∀ vs H Q E, sp_reached vs H Q E → t_reached K { nx := fun _ H' => Q .non H', rt := Q } (L2.start N_reached vs) H := rd_D fun ds Φ h => by
  obtain ⟨N, s, B, bs, rfl, hB, ok, hs, h⟩ := h
  show Ex K _ _ [.d (nearL N), .d (nD s), .d B, .e, .e, .e]
  unfold t_reached
  have hN := ok.hi
  refine y_seq (y_parNN (by decide) ?_)
  refine en_disp1 ?_
  walk_at "go"
  refine ⟨.inl s, rfl, ?_⟩
  walk_at "go"
  refine ⟨_, rfl, ?_⟩
  refine en_lst ?_
  walk_at "go"
  refine ⟨by simp, fun a b => ?_⟩
  refine y_seq (y_while (fun m as' => ∃ (wait ks : List Nat) (s5 : Sl), as' = [.d (nearL N), .d (nD s), .d B, .o a (.dct (encV ks fun _ => .bl true)), .o b (.lst (wait.map nD)), s5] ∧ Rc N bs s (fun x => x ∈ wait) ks ∧ (∀ x ∈ wait, x ∈ ks) ∧ wait.length ≤ ks.length ∧ m = 2 * (N.length - ks.length) + wait.length) (2 * (N.length - 1) + 1) ?_ ?_)
  · refine ⟨[s], [s], .e, rfl, ?_, by simp, by simp, rfl⟩
    exact ⟨by simp, by simp; exact hs, by simp, by simp, fun y hy => by rw [List.mem_singleton.mp hy]; exact .refl⟩
  · rintro m as' ⟨wait, ks, s5, rfl, hr, hw, hwl, rfl⟩
    refine eb_peek ?_
    walk_at "go"
    refine ⟨by simp, (shp_nbD wait).ok, rfl, ?_⟩
    rw [show (!PyData.eqv (.list (wait.map nD)) (.list [])) = decide (wait ≠ []) from nbD_ne]
    refine ⟨_, rfl, fun hb => ?_, fun hb => ?_⟩
    · have hb := of_decide_eq_true hb
      generalize ep : wait.getLast hb = p
      generalize ew : wait.dropLast = w0
      have hwp : wait = w0 ++ [p] := by rw [← ep, ← ew]; exact (List.dropLast_concat_getLast hb).symm
      subst hwp
      have hp : p ∈ ks := hw p (by simp)
      have hpn := hr.lt p hp
      rw [List.length_append, List.length_singleton] at hwl
      refine y_for (js := [5]) ?_
      walk_at "go"
      refine ev_pop (x := nD p) rfl (by rw [List.map_append]; simp) ?_
      refine ⟨_, p, _, rfl, rfl, near_at hpn, _, rfl, fun j as' => ∃ (wait' ks' : List Nat) (s5 : Sl), as' = [.d (nearL N), .d (nD s), .d B, .o a (.dct (encV ks' fun _ => .bl true)), .o b (.lst (wait'.map nD)), s5] ∧ Rc N bs s (fun x => x ∈ wait' ∨ x = p) ks' ∧ (∀ x ∈ wait', x ∈ ks') ∧ (∀ x ∈ ks, x ∈ ks') ∧ ks'.length + w0.length = ks.length + wait'.length ∧ ∀ y ∈ (step N p).take j, y ∈ bs ∨ y ∈ ks', ?_, ?_, ?_⟩
      · refine ⟨w0, ks, s5, by rw [List.map_append]; simp [List.dropLast], hr.more fun x hx ho => .inl (by simpa using ho), fun x hx => hw x (by simp [hx]), fun x hx => hx, rfl, by simp⟩
      · rintro j x as' hx ⟨wait', ks', s5, rfl, hr', hw', hk, hl, hj⟩
        rw [List.getElem?_map] at hx
        obtain ⟨y, hy, rfl⟩ := Option.map_eq_some_iff.mp hx
        have hyp : y ∈ step N p := List.mem_of_getElem? hy
        have hyn := ok.lt p y hyp
        have tk : (step N p).take (j + 1) = (step N p).take j ++ [y] := by rw [List.take_add_one, hy]; rfl
        have klen := nodup_len hr'.nodup hr'.lt
        refine eg_name (x_if (eb_peek ?_))
        walk_at "go"
        refine ⟨.inl y, rfl, ?_⟩
        rw [valV_encV_some]
        refine ⟨_, rfl, fun hb => ?_, fun hb => ?_⟩
        · have hb : y ∉ ks' := by simpa using hb
          walk_at "go"
          refine ⟨y, bs.map Int.ofNat, rfl, by rw [hB, map_nD], _, rfl, fun hc => ?_, fun hc => ?_⟩
          · have hc : y ∉ bs := by
              intro z
              have : (y : Int) ∈ bs.map Int.ofNat := List.mem_map.mpr ⟨y, z, rfl⟩
              simp [this] at hc
            walk_at "go"
            refine y_dput rfl ?_
            walk_at "go"
            refine ⟨_, rfl, ?_⟩
            walk_at "go"
            refine ⟨.inl y, _, rfl, rfl, by rw [encV_len]; omega, ?_⟩
            refine y_app rfl ?_
            walk_at "go"
            have hr2 := hr'.add ok (hk p hp) hyp hb hc
            refine ⟨_, rfl, ?_, wait' ++ [y], ks' ++ [y], .d (nD y), ?_, hr2.more fun x hx ho => .inl ?_, ?_, fun x hx => List.mem_append_left _ (hk x hx), by simp; omega, ?_⟩
            · rw [List.length_map]; omega
            · rw [show encV (ks' ++ [y]) (fun _ => V.bl true) = putK (encV ks' fun _ => .bl true) (.inl (y : Int)) (.bl true) by
                rw [putK_encV _ _ _ _ hb]; congr 1; funext z; simp]
              rw [List.map_append]
              rfl
            · rcases ho with (ho | ho) | ho
              · exact .inl (List.mem_append_left _ ho)
              · exact .inr ho
              · exact .inl (by simp [ho])
            · intro x hx
              rcases List.mem_append.mp hx with hx | hx
              · exact List.mem_append_left _ (hw' x hx)
              · exact List.mem_append_right _ hx
            · intro z hz
              rw [tk] at hz
              rcases List.mem_append.mp hz with hz | hz
              · exact (hj z hz).imp id (List.mem_append_left _)
              · rw [List.mem_singleton.mp hz]; exact .inr (by simp)
          · have hc : y ∈ bs := by
              have : (y : Int) ∈ bs.map Int.ofNat := by simpa using hc
              obtain ⟨z, hz, e⟩ := List.mem_map.mp this
              have : z = y := Int.ofNat.inj e
              rw [← this]; exact hz
            refine y_next ⟨wait', ks', _, rfl, hr', hw', hk, hl, ?_⟩
            intro z hz
            rw [tk] at hz
            rcases List.mem_append.mp hz with hz | hz
            · exact hj z hz
            · rw [List.mem_singleton.mp hz]; exact .inl hc
        · have hb : y ∈ ks' := by simpa using hb
          refine ⟨nofun, fun _ => y_next ⟨wait', ks', _, rfl, hr', hw', hk, hl, ?_⟩⟩
          intro z hz
          rw [tk] at hz
          rcases List.mem_append.mp hz with hz | hz
          · exact hj z hz
          · rw [List.mem_singleton.mp hz]; exact .inr hb
      · rintro as' ⟨wait', ks', s5, rfl, hr', hw', hk, hl, hj⟩
        have klen := nodup_len hr'.nodup hr'.lt
        have klen0 := nodup_len hr.nodup hr.lt
        have kk : ks.length ≤ ks'.length := List.Nodup.length_le_of_subset hr.nodup fun x hx => hk x hx
        refine ⟨2 * (N.length - ks'.length) + wait'.length, ?_, wait', ks', s5, rfl, hr'.more fun x hx ho => ?_, hw', by omega, rfl⟩
        · rw [List.length_append]; simp only [List.length_singleton]; omega
        · rcases ho with ho | rfl
          · exact .inl ho
          · refine .inr fun y hy => hj y ?_
            rw [List.length_map, List.take_length]; exact hy
    · have hb : wait = [] := by simpa using hb
      subst hb
      refine x_freezeD (j := 3) rfl ?_
      walk_at "go"
      have klen := nodup_len hr.nodup hr.lt
      refine ⟨ks.map Int.ofNat, encV_fst _ _, by rw [List.length_map]; omega, fun ys pm sm => ?_⟩
      rw [sort_nat pm sm (srt_perm hr.nodup hr.lt) (srt_lt _ _), ← map_nD]
      have hr0 : Rc N bs s (fun _ => False) ks := hr.more fun x _ ho => by cases ho
      exact h (srt N.length ks) (srt_lt _ _) (fun y => by rw [mem_srt hr.lt]; exact hr0.iff y) fun y hy => hr.lt y ((mem_srt hr.lt).mp hy)
def A_is_joined (ds : List PyData) (Φ : PyData → Prop) : Prop := ∃ (N : Nb), ds = [nearL N] ∧ N.Ok ∧ 0 < N.length ∧ ∀ b : Bool, (b = true ↔ ∀ y < N.length, Rch N [] 0 y) → Φ (.bool b)
abbrev sp_is_joined : Sp := spD A_is_joined
def t_is_joined (K : PySem.W.Frag) : TS := (tRet (tOp rEq (tCB (rLenS K) (tCons (tCall sp_reached [] E0 (tCons (tVar 0) (tCons (tC (.int 0)) (tCons (tTup tNil) tNil)))) tNil)) (tCB (rLenS K) (tCons (tVar 0) tNil))))
def N_is_joined : List Str := ["near"]
theorem len_is_joined : ∀ vs H Q E, sp_is_joined vs H Q E → vs.length = (["near"] : List Str).length := lenD fun ds Φ h => by
  obtain ⟨N, rfl, ok, hN, h⟩ := h; rfl
theorem rd_is_joined {K : PySem.W.Frag} : ∀ vs H Q E, sp_is_joined vs H Q E → t_is_joined K { nx := fun _ H' => Q .non H', rt := Q } (L2.start N_is_joined vs) H := rd_D fun ds Φ h => by
  obtain ⟨N, rfl, ok, hN, h⟩ := h
  show Ex K _ _ [.d (nearL N)]
  unfold t_is_joined
  walk_at "go"
  refine ⟨by simp, ?_⟩
  walk_at "go"
  refine ⟨N, 0, .tuple [], [], rfl, rfl, ok, hN, fun zs hz hi hl => ?_⟩
  walk_at "go"
  refine ⟨_, _, rfl, rfl, ?_⟩
  walk_at "go"
  refine ⟨_, _, rfl, rfl, _, rfl, h _ ?_⟩
  rw [List.length_map, List.length_map, decide_eq_true_iff]
  have nd := nodup_lt hz
  constructor
  · intro e y hy
    have e : zs.length = N.length := by omega
    refine (hi y).mp ?_
    by_cases hm : y ∈ zs
    · exact hm
    · exfalso
      have nd2 : (y :: zs).Nodup := List.nodup_cons.mpr ⟨hm, nd⟩
      have := nodup_len nd2 (n := N.length) fun z hz => by
        rcases List.mem_cons.mp hz with rfl | hz
        · exact hy
        · exact hl z hz
      simp at this; omega
  · intro e
    have h1 := nodup_len nd hl
    have h2 := List.Nodup.length_le_of_subset (List.nodup_range (n := N.length)) (l₂ := zs) fun y hy => (hi y).mpr (e y (List.mem_range.mp hy))
    rw [List.length_range] at h2
    omega
/-! ### webs -/
def Web.near (W : Web) : Nb := (List.range W.n).map W.nb
theorem nearD_eq (W : Web) : nearD W = nearL W.near := by unfold nearD nearL Web.near; rw [List.map_map]; rfl
theorem near_len (W : Web) : W.near.length = W.n := by unfold Web.near; simp
theorem near_step {W : Web} {x : Nat} (h : x < W.n) : step W.near x = W.nb x := by
  unfold step Web.near
  simp [h]
theorem near_step0 {W : Web} {x : Nat} (h : ¬ x < W.n) : step W.near x = [] := by
  unfold step Web.near
  simp [h]
theorem nb_lt_n {W : Web} {x y : Nat} (h : y ∈ W.nb x) : y < W.n := by
  unfold Web.nb at h
  exact List.mem_range.mp (List.mem_filter.mp h).1
theorem Web.Ok.near {W : Web} (ok : W.Ok) : W.near.Ok := by
  have := ok.hi
  refine ⟨by rw [near_len]; omega, fun x y hy => ?_, fun x => ?_⟩
  · rw [near_len]
    by_cases h : x < W.n
    · rw [near_step h] at hy; exact nb_lt_n hy
    · rw [near_step0 h] at hy; cases hy
  · by_cases h : x < W.n
    · rw [near_step h]
      have := List.length_filter_le (W.adj x) (List.range W.n)
      rw [List.length_range] at this
      unfold Web.nb; omega
    · rw [near_step0 h]; simp
def Web.joined (W : Web) : Prop := ∀ y < W.n, Rch W.near [] 0 y
def A_look_at_joined (ds : List PyData) (Φ : PyData → Prop) : Prop := ∃ W : Web, ds = [webD W] ∧ W.Ok ∧ W.joined ∧ Φ (nearL W.near)
abbrev sp_look_at_joined : Sp := spD A_look_at_joined
def t_look_at_joined (K : PySem.W.Frag) : TS := (tSeq (tDrop (tCall sp_look_at_web [] E0 (tCons (tVar 0) tNil))) (tSeq (tAsg (tCall sp_near_of [] E0 (tCons (tVar 0) tNil)) (gName 1)) (tSeq (tIfS (tNot (tB (tCall sp_is_joined [] E0 (tCons (tVar 1) tNil)))) tNever tNext) (tRet (tVar 1)))))
def N_look_at_joined : List Str := ["web", "near"]
theorem len_look_at_joined : ∀ vs H Q E, sp_look_at_joined vs H Q E → vs.length = (["web"] : List Str).length := lenD fun ds Φ h => by
  obtain ⟨W, rfl, ok, hj, h⟩ := h; rfl
theorem rd_look_at_joined {K : PySem.W.Frag} : ∀ vs H Q E, sp_look_at_joined vs H Q E → t_look_at_joined K { nx := fun _ H' => Q .non H', rt := Q } (L2.start N_look_at_joined vs) H := rd_D fun ds Φ h => by
  obtain ⟨W, rfl, ok, hj, h⟩ := h
  show Ex K _ _ [.d (webD W), .e]
  unfold t_look_at_joined
  have := ok.lo
  walk_at "go"
  refine ⟨W, rfl, ok, ?_⟩
  walk_at "go"
  refine ⟨W, rfl, ok, ?_⟩
  walk_at "go"
  rw [nearD_eq]
  refine ⟨W.near, rfl, ok.near, by rw [near_len]; omega, fun b hb => ?_⟩
  rw [near_len] at hb
  have : b = true := hb.mpr hj
  subst this
  refine ⟨_, rfl, nofun, fun _ => ?_⟩
  walk_at "go"
  exact h
def A_hangs_together (ds : List PyData) (Φ : PyData → Prop) : Prop := ∃ W : Web, ds = [webD W] ∧ W.Ok ∧ ∀ b : Bool, (b = true ↔ W.joined) → Φ (.bool b)
abbrev sp_hangs_together : Sp := spD A_hangs_together
def t_hangs_together (K : PySem.W.Frag) : TS := (tSeq (tDrop (tCall sp_look_at_web [] E0 (tCons (tVar 0) tNil))) (tRet (tCall sp_is_joined [] E0 (tCons (tCall sp_near_of [] E0 (tCons (tVar 0) tNil)) tNil))))
def N_hangs_together : List Str := ["web"]
theorem len_hangs_together : ∀ vs H Q E, sp_hangs_together vs H Q E → vs.length = (["web"] : List Str).length := lenD fun ds Φ h => by
  obtain ⟨W, rfl, ok, h⟩ := h; rfl
theorem rd_hangs_together {K : PySem.W.Frag} : ∀ vs H Q E, sp_hangs_together vs H Q E → t_hangs_together K { nx := fun _ H' => Q .non H', rt := Q } (L2.start N_hangs_together vs) H := rd_D fun ds Φ h => by
  obtain ⟨W, rfl, ok, h⟩ := h
  show Ex K _ _ [.d (webD W)]
  unfold t_hangs_together
  have := ok.lo
  walk_at "go"
  refine ⟨W, rfl, ok, ?_⟩
  walk_at "go"
  refine ⟨W, rfl, ok, ?_⟩
  walk_at "go"
  rw [nearD_eq]
  refine ⟨W.near, rfl, ok.near, by rw [near_len]; omega, fun b hb => ?_⟩
  rw [near_len] at hb
  exact h b hb
end Lp


set_option Elab.async false
set_option linter.all false
set_option maxRecDepth 100000
set_option maxHeartbeats 4000000
/-! Lp: powers, ways, longest ways. -/
namespace Lp
open PySem PySem.Spec L2
local macro_rules | `(tactic| walk_at "e1") => `(tactic| first
  | (with_reducible refine y_seq ?_) | (with_reducible refine ev_var (by with_unfolding_all rfl) ?_) | (with_reducible refine ev_int ?_) | (with_reducible refine ev_bl ?_) | (with_reducible refine ev_non ?_) | (with_reducible refine ev_str ?_)
  | (with_reducible refine y_ret ?_) | (with_reducible refine y_retN ?_) | (with_reducible refine y_next ?_) | (with_reducible refine x_if ?_) | (with_reducible refine y_setM (em_call ?_)) | (with_reducible refine y_set ?_) | (with_reducible refine y_drop ?_)
  | (with_reducible refine eb_test ?_) | (with_reducible refine eb_B ?_) | (with_reducible refine eb_not ?_) | (with_reducible refine eb_and ?_) | (with_reducible refine eb_or ?_) | (with_reducible refine eb_yes ?_)
  | (with_reducible refine ev_and ?_) | (with_reducible refine ev_or ?_) | (with_reducible refine ev_not ?_) | (with_reducible refine ev_if ?_)
  | (with_reducible refine ev_I ?_) | (with_reducible refine ev_BI ?_) | (with_reducible refine ev_IC ?_) | (with_reducible refine ev_chainB ?_) | (with_reducible refine ev_un ?_)
  | (with_reducible refine ev_ixL ?_) | (with_reducible refine ev_ixT ?_) | (with_reducible refine ev_isi ?_) | (with_reducible refine ev_isN ?_) | (with_reducible refine ev_notN ?_) | (with_reducible refine ev_isB ?_) | (with_reducible refine ev_notB ?_)
  | (with_reducible refine ev_eqG ?_) | (with_reducible refine ev_neG ?_) | (with_reducible refine ev_eqD ?_) | (with_reducible refine ev_neD ?_)
  | (with_reducible refine ev_slen (by with_unfolding_all rfl) ?_) | (with_reducible refine ev_olen (by with_unfolding_all rfl) ?_) | (with_reducible refine ev_oixC (by with_unfolding_all rfl) (by with_unfolding_all rfl) (by with_unfolding_all rfl) ?_) | (with_reducible refine ev_len ?_) | (with_reducible refine ev_tup ?_) | (with_reducible refine ev_lst ?_) | (with_reducible refine ea_nil ?_) | (with_reducible refine ea_cons ?_) | (with_reducible refine ea_star ?_)
  | (with_reducible refine ev_call ?_) | (with_reducible refine em_call ?_) | (with_reducible refine em_var (by with_unfolding_all rfl) ?_) | (with_reducible refine ev_max2 ?_) | (with_reducible refine ev_min2 ?_) | (with_reducible refine ev_abs ?_)
  | (with_reducible refine ev_all ?_) | (with_reducible refine ev_any ?_) | (with_reducible refine ev_sum ?_) | (with_reducible refine ev_max ?_) | (with_reducible refine ev_min ?_) | (with_reducible refine ev_tupOf ?_)
  | (with_reducible refine ev_sortedI ?_) | (with_reducible refine ev_sortedP ?_) | (with_reducible refine ev_sortedD ?_) | (with_reducible refine ev_maxVals ?_) | (with_reducible refine ev_dget ?_) | (with_reducible refine ev_dget1 ?_) | (with_reducible refine ev_din ?_) | (with_reducible refine ev_dnotin ?_)
  | (with_reducible refine ev_slL ?_) | (with_reducible refine ev_slT ?_) | (with_reducible refine eo_none ?_) | (with_reducible refine eo_some ?_) | (with_reducible refine ev_cat ?_) | (with_reducible refine ev_ltT ?_) | (with_reducible refine ev_inI ?_)
  | (with_reducible refine ei_list ?_) | (with_reducible refine ei_tup ?_) | (with_reducible refine ei_rng1 ?_) | (with_reducible refine ei_rng2 ?_) | (with_reducible refine ei_zip ?_) | (with_reducible refine eg_name ?_) | (with_reducible refine eg_tup ?_) | (with_reducible refine egs_name ?_) | (with_reducible refine egs_nil ?_)
  | (with_reducible refine x_never ?_))
local macro_rules | `(tactic| walk_at "e") => `(tactic| first | walk_at "e1" | exact ⟨_, _, rfl, rfl, rfl⟩ | (refine ⟨_, _, rfl, rfl, ?_⟩) | (refine ⟨_, rfl, ?_⟩))
local macro_rules | `(tactic| walk_at "go") => `(tactic| repeat walk_at "e1")
/-! ### how far -/
def Dst (N : Nb) (x y k : Nat) : Prop := ∃ ks d, Bfs N x ks d ∧ y ∈ ks ∧ d y = k
theorem Bfs.le {N : Nb} {s : Nat} {ks ks' : List Nat} {d d' : Nat → Nat} (h : Bfs N s ks d) (h' : Bfs N s ks' d') : ∀ k y, y ∈ ks → d y = k → y ∈ ks' ∧ d' y ≤ k := by
  intro k
  induction k with
  | zero =>
    intro y hy e
    by_cases es : y = s
    · subst es; exact ⟨h'.s_in, by rw [h'.s0]; omega⟩
    · obtain ⟨x, _, _, e2⟩ := h.par y hy es; omega
  | succ k ih =>
    intro y hy e
    by_cases es : y = s
    · subst es; exact ⟨h'.s_in, by rw [h'.s0]; omega⟩
    · obtain ⟨x, hx, hs, e2⟩ := h.par y hy es
      obtain ⟨h1, h2⟩ := ih x hx (by omega)
      obtain ⟨h3, h4⟩ := h'.clo x h1 y hs
      exact ⟨h3, by omega⟩
theorem Bfs.dst {N : Nb} {s : Nat} {ks : List Nat} {d : Nat → Nat} (h : Bfs N s ks d) {y k : Nat} : Dst N s y k ↔ y ∈ ks ∧ d y = k := by
  refine ⟨fun ⟨ks', d', h', hy, e⟩ => ?_, fun ⟨hy, e⟩ => ⟨ks, d, h, hy, e⟩⟩
  obtain ⟨h1, h2⟩ := h'.le h k y hy e
  obtain ⟨h3, h4⟩ := h.le h' (d y) y h1 rfl
  exact ⟨h1, by omega⟩
theorem Dst.lt {N : Nb} {x y k : Nat} (h : Dst N x y k) : x < N.length ∧ y < N.length := by
  obtain ⟨ks, d, h, hy, e⟩ := h
  exact ⟨h.lt _ h.s_in, h.lt _ hy⟩
/-! ### sorted ties -/
def castP (t : Nat × Nat) : Int × Int := ((t.1 : Int), (t.2 : Int))
theorem map_tD (ts : List (Nat × Nat)) : ts.map tD = (ts.map castP).map pairD := by rw [List.map_map]; rfl
theorem leP_anti {x y : Int × Int} (h1 : leP x y) (h2 : leP y x) : x = y := by
  unfold leP at h1 h2
  exact Prod.ext (by omega) (by omega)
theorem sort_ties {qs : List (Int × Int)} {ts us : List (Nat × Nat)} (p : qs.Perm (ts.map castP)) (s : qs.Pairwise leP) (pu : us.Perm ts) (su : us.Pairwise ltP) : qs = us.map castP := by
  refine List.Perm.eq_of_pairwise (le := leP) (fun a b _ _ h1 h2 => leP_anti h1 h2) s ?_ (p.trans (pu.map _).symm)
  refine List.pairwise_map.mpr (su.imp fun {a b} h => ?_)
  unfold ltP at h
  unfold leP castP
  simp only
  omega
theorem ltP_irr (s : Nat × Nat) : ¬ ltP s s := fun h => by unfold ltP at h; omega
theorem asc_nodup {ts : List (Nat × Nat)} (h : ts.Pairwise ltP) : ts.Nodup := h.imp fun {a b} h (e : a = b) => ltP_irr a (by rw [← e] at h; exact h)
theorem asc_unique {ts us : List (Nat × Nat)} (ht : ts.Pairwise ltP) (hu : us.Pairwise ltP) (h : ∀ t, t ∈ ts ↔ t ∈ us) : ts = us :=
  List.Perm.eq_of_pairwise (le := ltP) (fun a b _ _ h1 h2 => by unfold ltP at h1 h2; omega) ht hu ((List.perm_ext_iff_of_nodup (asc_nodup ht) (asc_nodup hu)).mpr h)
def rowsT (n : Nat) (row : Nat → List Nat) : List (Nat × Nat) := (List.range n).flatMap fun x => (row x).map fun y => (x, y)
theorem mem_rowsT {n : Nat} {row : Nat → List Nat} {t : Nat × Nat} : t ∈ rowsT n row ↔ t.1 < n ∧ t.2 ∈ row t.1 := by
  unfold rowsT
  simp only [List.mem_flatMap, List.mem_range, List.mem_map]
  constructor
  · rintro ⟨x, hx, y, hy, rfl⟩; exact ⟨hx, hy⟩
  · rintro ⟨h1, h2⟩; exact ⟨t.1, h1, t.2, h2, rfl⟩
theorem rowsT_asc {n : Nat} {row : Nat → List Nat} (h : ∀ x, (row x).Pairwise (· < ·)) : (rowsT n row).Pairwise ltP := by
  unfold rowsT
  refine List.pairwise_flatMap.mpr ⟨fun x _ => List.pairwise_map.mpr ((h x).imp fun {a b} hab => .inr ⟨rfl, hab⟩), (range_lt n).imp fun {a b} hab => ?_⟩
  intro s hs t ht
  obtain ⟨y, _, rfl⟩ := List.mem_map.mp hs
  obtain ⟨z, _, rfl⟩ := List.mem_map.mp ht
  exact .inl hab
theorem rowsT_succ (n : Nat) (row : Nat → List Nat) : rowsT (n + 1) row = rowsT n row ++ (row n).map fun y => (n, y) := by
  unfold rowsT
  rw [List.range_succ, List.flatMap_append]
  simp
theorem rowsT_len {n m : Nat} {row : Nat → List Nat} (h : ∀ x, (row x).length ≤ m) : (rowsT n row).length ≤ n * m := by
  induction n with
  | zero => simp [rowsT]
  | succ n ih => rw [rowsT_succ, List.length_append, List.length_map, Nat.add_mul]; have := h n; omega
/-- what a power ties -/
noncomputable def rowP (N : Nb) (k x : Nat) : List Nat := (List.range N.length).filter fun y => @decide (x < y ∧ ∃ j, j ≤ k ∧ Dst N x y j) (Classical.propDecidable _)
theorem mem_rowP {N : Nb} {k x y : Nat} : y ∈ rowP N k x ↔ x < y ∧ ∃ j, j ≤ k ∧ Dst N x y j := by
  unfold rowP
  simp only [List.mem_filter, List.mem_range, decide_eq_true_eq]
  exact ⟨fun h => h.2, fun h => ⟨by obtain ⟨_, j, _, h⟩ := h; exact h.lt.2, h⟩⟩
theorem rowP_lt (N : Nb) (k x : Nat) : (rowP N k x).Pairwise (· < ·) := (range_lt _).filter _
noncomputable def Web.pow (W : Web) (k : Nat) : Web := ⟨W.n, rowsT W.n (rowP W.near k)⟩
theorem mem_pow {W : Web} {k : Nat} {t : Nat × Nat} : t ∈ (W.pow k).ts ↔ t.1 < t.2 ∧ ∃ j, j ≤ k ∧ Dst W.near t.1 t.2 j := by
  unfold Web.pow
  rw [mem_rowsT, mem_rowP]
  refine ⟨fun h => h.2, fun h => ⟨?_, h⟩⟩
  obtain ⟨_, j, _, h⟩ := h
  have := h.lt.1
  rwa [near_len] at this
theorem pow_ok {W : Web} (ok : W.Ok) (k : Nat) : (W.pow k).Ok := by
  refine ⟨ok.lo, ok.hi, fun t ht => ?_, rowsT_asc (rowP_lt _ _)⟩
  obtain ⟨h1, j, _, h2⟩ := mem_pow.mp ht
  have := h2.lt.2
  rw [near_len] at this
  exact ⟨h1, this⟩
theorem rangeI_nat (n : Nat) : (rangeI 0 n).map PyData.int = (List.range n).map nD := by
  unfold rangeI
  rw [List.map_map]
  refine List.map_congr_left fun x _ => ?_
  simp
theorem range_at {n i : Nat} {x : PyData} (h : ((List.range n).map nD)[i]? = some x) : i < n ∧ x = nD i := by
  rw [List.getElem?_map] at h
  obtain ⟨j, hj, rfl⟩ := Option.map_eq_some_iff.mp h
  have hi := (List.getElem?_eq_some_iff.mp hj).1
  rw [List.getElem?_eq_getElem hi, List.getElem_range] at hj
  rw [List.length_range] at hi
  exact ⟨hi, by rw [← Option.some.inj hj]⟩
def A_told_power (ds : List PyData) (Φ : PyData → Prop) : Prop := ∃ (W : Web) (k : Nat), ds = [webD W, nD k] ∧ W.Ok ∧ Φ (webD (W.pow k))
abbrev sp_told_power : Sp := spD A_told_power
def t_told_power (K : PySem.W.Frag) : TS := (tSeq (tPar 2 3 (tCons (tCall sp_near_of [] E0 (tCons (tVar 0) tNil)) (tCons (tLst tNil) tNil))) (tSeq (tFor (iRng1 (tCons (tOp (rIxT K) (tVar 0) (tC (.int 0))) tNil)) (gName 4) (tSeq (tAsg (tCall sp_ways_from [] E0 (tCons (tVar 2) (tCons (tVar 4) tNil))) (gName 5)) (tDrop (tBM K "list" rExtend (tVar 3) (tCons (tLc (iList K (tCB rSortedDI (tCons (tVar 5) tNil))) (gName 6) (tAnd (tTest (tOp (rI0 fun i j => .bl (decide (i < j))) (tVar 4) (tVar 6))) (tTest (tOp (rI0 fun i j => .bl (decide (i ≤ j))) (tDGet (tVar 5) (tVar 6)) (tVar 1)))) (tTup (tCons (tVar 4) (tCons (tVar 6) tNil))) [6]) tNil))))) (tRet (tTup (tCons (tOp (rIxT K) (tVar 0) (tC (.int 0))) (tCons (tCB (rTupOf K) (tCons (tCB (rSortedPO K) (tCons (tVar 3) tNil)) tNil)) tNil))))))
def N_told_power : List Str := ["web", "far", "near", "ties", "place", "ways", "other"]
theorem len_told_power : ∀ vs H Q E, sp_told_power vs H Q E → vs.length = (["web", "far"] : List Str).length := lenD fun ds Φ h => by
  obtain ⟨W, k, rfl, ok, h⟩ := h; rfl
theorem rd_told_power {K : PySem.W.Frag} : ∀ vs H Q E, sp_told_power vs H Q E → t_told_power K { nx := fun _ H' => Q .non H', rt := Q } (L2.start N_told_power vs) H := rd_D fun ds Φ h => by
  obtain ⟨W, k, rfl, ok, h⟩ := h
  show Ex K _ _ [.d (webD W), .d (nD k), .e, .e, .e, .e, .e]
  unfold t_told_power
  have o1 := ok.lo
  have o2 := ok.hi
  refine y_seq (y_parDN ?_)
  walk_at "go"
  refine ⟨W, rfl, ok, en_lst ?_⟩
  walk_at "go"
  refine ⟨by simp, fun b => ?_⟩
  rw [nearD_eq]
  refine y_seq (y_for (js := [4]) ?_)
  walk_at "go"
  refine ⟨_, 0, _, rfl, rfl, rfl, ?_⟩
  walk_at "go"
  refine ⟨_, rfl, by omega, by omega, fun i as' => ∃ s4 s5 s6, as' = [.d (webD W), .d (nD k), .d (nearL W.near), .o b (.lst ((rowsT i (rowP W.near k)).map tD)), s4, s5, s6], ⟨_, _, _, rfl⟩, ?_, ?_⟩
  · rintro i x as' hx ⟨s4, s5, s6, rfl⟩
    rw [Int.toNat_natCast, rangeI_nat] at hx
    obtain ⟨hi, rfl⟩ := range_at hx
    walk_at "go"
    refine ⟨W.near, i, rfl, ok.near, by rw [near_len]; exact hi, fun ks d hb => ?_⟩
    refine y_ext rfl ?_
    refine ev_lcF nD (fun y => decide (i < y) && decide (d y ≤ k)) (fun y => tD (i, y)) (js := [6]) (by decide) ?_
    have klen := nodup_len hb.nodup hb.lt
    rw [near_len] at klen
    walk_at "go"
    refine ⟨ks.map Int.ofNat, encK_fst _ _, by rw [List.length_map]; omega, fun ys pm sm => ?_⟩
    rw [sort_nat pm sm (srt_perm hb.nodup hb.lt) (srt_lt _ _), ← map_nD]
    refine ⟨_, rfl, srt W.near.length ks, rfl, ?_, ?_, ?_⟩
    · have := nodup_len (nodup_lt (srt_lt W.near.length ks)) fun y hy => List.mem_range.mp (List.mem_filter.mp hy).1
      rw [near_len] at this ⊢; omega
    · intro y hy
      have hyk := (mem_srt hb.lt).mp hy
      walk_at "go"
      refine ⟨_, _, rfl, rfl, _, rfl, fun h1 => ?_, fun h1 => ?_⟩
      · walk_at "go"
        refine ⟨.inl y, V.int (d y : Int), .int (d y : Int), rfl, by rw [valV_encK, if_pos hyk], rfl, ?_⟩
        walk_at "go"
        refine ⟨_, _, rfl, rfl, _, rfl, ?_, fun _ => ?_, fun _ => rfl⟩
        · have h1 : (i : Int) < (y : Int) := of_decide_eq_true h1
          have : i < y := by omega
          simp [this]
        · walk_at "go"
          exact ⟨by simp, rfl, rfl⟩
      · have h1 : ¬ (i : Int) < (y : Int) := of_decide_eq_false h1
        have : ¬ i < y := by omega
        refine ⟨by simp [this], ?_, fun _ => rfl⟩
        intro z; simp [this] at z
    · have hrow : ((srt W.near.length ks).filter fun y => decide (i < y) && decide (d y ≤ k)) = rowP W.near k i := by
        refine lt_unique ((srt_lt _ _).filter _) (rowP_lt _ _ _) fun y => ?_
        rw [List.mem_filter, mem_srt hb.lt, mem_rowP]
        simp only [Bool.and_eq_true, decide_eq_true_eq]
        constructor
        · rintro ⟨h1, h2, h3⟩; exact ⟨h2, d y, h3, hb.dst.mpr ⟨h1, rfl⟩⟩
        · rintro ⟨h1, j, h2, h3⟩
          obtain ⟨h4, h5⟩ := hb.dst.mp h3
          exact ⟨h4, h1, by omega⟩
      rw [hrow]
      refine ⟨_, _, rfl, rfl, ?_, ?_⟩
      · rw [List.length_map, List.length_map]
        have h1 : ∀ x, (rowP W.near k x).length ≤ W.n := fun x => by
          have := nodup_len (nodup_lt (rowP_lt W.near k x)) fun y hy => List.mem_range.mp (List.mem_filter.mp hy).1
          rwa [near_len] at this
        have h2 := rowsT_len (n := i) h1
        have h3 : i * W.n ≤ 40 * 40 := Nat.mul_le_mul (by omega) (by omega)
        have := h1 i
        omega
      · refine ⟨.d (nD i), .m (encK ks d), keepS s6, ?_⟩
        rw [rowsT_succ, List.map_append, List.map_map]
        rfl
  · rintro as' ⟨s4, s5, s6, rfl⟩
    rw [Int.toNat_natCast, List.length_map, rangeI_len]
    refine x_freeze (j := 3) rfl ?_
    walk_at "go"
    refine ⟨_, 0, _, rfl, rfl, rfl, ?_⟩
    walk_at "go"
    refine ⟨_, by rw [map_tD], fun qs pm sm => ?_⟩
    walk_at "go"
    refine ⟨_, rfl, ?_⟩
    walk_at "go"
    refine ⟨by simp, ?_⟩
    rw [sort_ties pm sm (List.Perm.refl _) (rowsT_asc (rowP_lt _ _)), ← map_tD]
    exact h
def A_power (ds : List PyData) (Φ : PyData → Prop) : Prop := ∃ (W : Web) (k : Nat), ds = [webD W, nD k] ∧ W.Ok ∧ 1 ≤ k ∧ k ≤ 40 ∧ Φ (webD (W.pow k))
abbrev sp_power : Sp := spD A_power
def t_power (K : PySem.W.Frag) : TS := (tSeq (tDrop (tCall sp_look_at_far [] E0 (tCons (tVar 0) (tCons (tVar 1) tNil)))) (tRet (tCall sp_told_power [] E0 (tCons (tVar 0) (tCons (tVar 1) tNil)))))
def N_power : List Str := ["web", "far"]
theorem len_power : ∀ vs H Q E, sp_power vs H Q E → vs.length = (["web", "far"] : List Str).length := lenD fun ds Φ h => by
  obtain ⟨W, k, rfl, ok, h1, h2, h⟩ := h; rfl
theorem rd_power {K : PySem.W.Frag} : ∀ vs H Q E, sp_power vs H Q E → t_power K { nx := fun _ H' => Q .non H', rt := Q } (L2.start N_power vs) H := rd_D fun ds Φ h => by
  obtain ⟨W, k, rfl, ok, h1, h2, h⟩ := h
  show Ex K _ _ [.d (webD W), .d (nD k)]
  unfold t_power
  walk_at "go"
  refine ⟨W, k, rfl, ok, h1, h2, ?_⟩
  walk_at "go"
  exact ⟨W, k, rfl, ok, h⟩
def A_is_power_of (ds : List PyData) (Φ : PyData → Prop) : Prop := ∃ (W V : Web) (k : Nat), ds = [webD W, webD V, nD k] ∧ W.Ok ∧ V.Ok ∧ 1 ≤ k ∧ k ≤ 40 ∧ ∀ b : Bool, (b = true ↔ V.pow k = W) → Φ (.bool b)
abbrev sp_is_power_of : Sp := spD A_is_power_of
def t_is_power_of (K : PySem.W.Frag) : TS := (tSeq (tDrop (tCall sp_look_at_far [] E0 (tCons (tVar 0) (tCons (tVar 2) tNil)))) (tSeq (tIfS (tNot (tB (tCall sp_is_told_web [] E0 (tCons (tVar 1) tNil)))) tNever tNext) (tRet (tOp (rEqD K) (tCall sp_told_power [] E0 (tCons (tVar 1) (tCons (tVar 2) tNil))) (tVar 0)))))
def N_is_power_of : List Str := ["web", "other", "far"]
theorem len_is_power_of : ∀ vs H Q E, sp_is_power_of vs H Q E → vs.length = (["web", "other", "far"] : List Str).length := lenD fun ds Φ h => by
  obtain ⟨W, V, k, rfl, ok, okV, h1, h2, h⟩ := h; rfl
theorem rd_is_power_of {K : PySem.W.Frag} : ∀ vs H Q E, sp_is_power_of vs H Q E → t_is_power_of K { nx := fun _ H' => Q .non H', rt := Q } (L2.start N_is_power_of vs) H := rd_D fun ds Φ h => by
  obtain ⟨W, V, k, rfl, ok, okV, h1, h2, h⟩ := h
  show Ex K _ _ [.d (webD W), .d (webD V), .d (nD k)]
  unfold t_is_power_of
  walk_at "go"
  refine ⟨W, k, rfl, ok, h1, h2, ?_⟩
  walk_at "go"
  refine ⟨V, rfl, okV, _, rfl, nofun, fun _ => ?_⟩
  walk_at "go"
  refine ⟨V, k, rfl, okV, ?_⟩
  walk_at "go"
  exact ⟨(shp_webD _).ok, (shp_webD _).ok, h _ (eqv_webD _ _)⟩
def A_way (ds : List PyData) (Φ : PyData → Prop) : Prop := ∃ (W : Web) (x y : Nat), ds = [webD W, nD x, nD y] ∧ W.Ok ∧ x < W.n ∧ y < W.n ∧ (∀ k, Dst W.near x y k → Φ (nD k)) ∧ ((∀ k, ¬ Dst W.near x y k) → Φ .none)
abbrev sp_way : Sp := spD A_way
def t_way (K : PySem.W.Frag) : TS := (tSeq (tDrop (tCall sp_look_at_two [] E0 (tCons (tVar 0) (tCons (tVar 1) (tCons (tVar 2) tNil))))) (tRet (tDGet1 (tCall sp_ways_from [] E0 (tCons (tCall sp_near_of [] E0 (tCons (tVar 0) tNil)) (tCons (tVar 1) tNil))) (tVar 2))))
def N_way : List Str := ["web", "one", "other"]
theorem len_way : ∀ vs H Q E, sp_way vs H Q E → vs.length = (["web", "one", "other"] : List Str).length := lenD fun ds Φ h => by
  obtain ⟨W, x, y, rfl, ok, hx, hy, h1, h2⟩ := h; rfl
theorem rd_way {K : PySem.W.Frag} : ∀ vs H Q E, sp_way vs H Q E → t_way K { nx := fun _ H' => Q .non H', rt := Q } (L2.start N_way vs) H := rd_D fun ds Φ h => by
  obtain ⟨W, x, y, rfl, ok, hx, hy, h1, h2⟩ := h
  show Ex K _ _ [.d (webD W), .d (nD x), .d (nD y)]
  unfold t_way
  walk_at "go"
  refine ⟨W, x, y, rfl, ok, hx, hy, ?_⟩
  walk_at "go"
  refine ⟨W, rfl, ok, ?_⟩
  rw [nearD_eq]
  walk_at "go"
  refine ⟨W.near, x, rfl, ok.near, by rw [near_len]; exact hx, fun ks d hb => ?_⟩
  walk_at "go"
  by_cases hm : y ∈ ks
  · refine ⟨.inl y, .int (d y : Int), rfl, ?_, h1 _ (hb.dst.mpr ⟨hm, rfl⟩)⟩
    rw [valV_encK, if_pos hm]; rfl
  · refine ⟨.inl y, .none, rfl, ?_, h2 fun k hk => hm (hb.dst.mp hk).1⟩
    rw [valV_encK, if_neg hm]; rfl
def A_within (ds : List PyData) (Φ : PyData → Prop) : Prop := ∃ (W : Web) (x k : Nat), ds = [webD W, nD x, nD k] ∧ W.Ok ∧ x < W.n ∧ k ≤ 40 ∧ ∀ zs : List Nat, zs.Pairwise (· < ·) → (∀ y, y ∈ zs ↔ ∃ j, j ≤ k ∧ Dst W.near x y j) → Φ (.tuple (zs.map nD))
abbrev sp_within : Sp := spD A_within
def t_within (K : PySem.W.Frag) : TS := (tSeq (tDrop (tCall sp_look_at_place [] E0 (tCons (tVar 0) (tCons (tVar 1) tNil)))) (tSeq (tDrop (tCall sp_look_at_int [] E0 (tCons (tVar 2) (tCons (tC (.int 0)) (tCons (tC (.int 40)) tNil))))) (tSeq (tAsg (tCall sp_ways_from [] E0 (tCons (tCall sp_near_of [] E0 (tCons (tVar 0) tNil)) (tCons (tVar 1) tNil))) (gName 3)) (tRet (tCB (rTupOf K) (tCons (tLc (iList K (tCB rSortedDI (tCons (tVar 3) tNil))) (gName 4) (tTest (tOp (rI0 fun i j => .bl (decide (i ≤ j))) (tDGet (tVar 3) (tVar 4)) (tVar 2))) (tVar 4) [4]) tNil))))))
def N_within : List Str := ["web", "place", "far", "found", "other"]
theorem len_within : ∀ vs H Q E, sp_within vs H Q E → vs.length = (["web", "place", "far"] : List Str).length := lenD fun ds Φ h => by
  obtain ⟨W, x, k, rfl, ok, hx, hk, h⟩ := h; rfl
theorem rd_within {K : PySem.W.Frag} : ∀ vs H Q E, sp_within vs H Q E → t_within K { nx := fun _ H' => Q .non H', rt := Q } (L2.start N_within vs) H := rd_D fun ds Φ h => by
  obtain ⟨W, x, k, rfl, ok, hx, hk, h⟩ := h
  show Ex K _ _ [.d (webD W), .d (nD x), .d (nD k), .e, .e]
  unfold t_within
  have o2 := ok.hi
  walk_at "go"
  refine ⟨W, x, rfl, ok, hx, ?_⟩
  walk_at "go"
  refine ⟨_, _, _, rfl, by omega, by omega, ?_⟩
  walk_at "go"
  refine ⟨W, rfl, ok, ?_⟩
  rw [nearD_eq]
  walk_at "go"
  refine ⟨W.near, x, rfl, ok.near, by rw [near_len]; exact hx, fun ks d hb => ?_⟩
  walk_at "go"
  have klen := nodup_len hb.nodup hb.lt
  rw [near_len] at klen
  refine ev_lcF nD (fun y => decide (d y ≤ k)) nD (js := [4]) (by decide) ?_
  walk_at "go"
  refine ⟨ks.map Int.ofNat, encK_fst _ _, by rw [List.length_map]; omega, fun ys pm sm => ?_⟩
  rw [sort_nat pm sm (srt_perm hb.nodup hb.lt) (srt_lt _ _), ← map_nD]
  refine ⟨_, rfl, srt W.near.length ks, rfl, ?_, ?_, ?_⟩
  · have := nodup_len (nodup_lt (srt_lt W.near.length ks)) fun y hy => List.mem_range.mp (List.mem_filter.mp hy).1
    rw [near_len] at this ⊢; omega
  · intro y hy
    have hyk := (mem_srt hb.lt).mp hy
    walk_at "go"
    refine ⟨.inl y, V.int (d y : Int), .int (d y : Int), rfl, by rw [valV_encK, if_pos hyk], rfl, ?_⟩
    walk_at "go"
    refine ⟨_, _, rfl, rfl, _, rfl, by simp, fun _ => ?_, fun _ => rfl⟩
    walk_at "go"
    exact ⟨rfl, rfl⟩
  · walk_at "go"
    refine ⟨_, rfl, h _ ((srt_lt _ _).filter _) fun y => ?_⟩
    rw [List.mem_filter, mem_srt hb.lt]
    simp only [decide_eq_true_eq]
    constructor
    · rintro ⟨h1, h2⟩; exact ⟨d y, h2, hb.dst.mpr ⟨h1, rfl⟩⟩
    · rintro ⟨j, h1, h2⟩
      obtain ⟨h3, h4⟩ := hb.dst.mp h2
      exact ⟨h3, by omega⟩
/-- the farthest place -/
def IsEcc (N : Nb) (x m : Nat) : Prop := (∃ y, Dst N x y m) ∧ ∀ y j, Dst N x y j → j ≤ m
theorem Bfs.ecc {N : Nb} {s : Nat} {ks : List Nat} {d : Nat → Nat} (h : Bfs N s ks d) {m : Int} (h1 : m ∈ ks.map fun (y : Nat) => ((d y : Nat) : Int)) (h2 : ∀ j ∈ ks.map fun (y : Nat) => ((d y : Nat) : Int), j ≤ m) : ∃ k : Nat, m = k ∧ IsEcc N s k := by
  obtain ⟨y, hy, rfl⟩ := List.mem_map.mp h1
  refine ⟨d y, rfl, ⟨y, h.dst.mpr ⟨hy, rfl⟩⟩, fun z j hz => ?_⟩
  obtain ⟨h3, h4⟩ := h.dst.mp hz
  have := h2 (d z) (List.mem_map.mpr ⟨z, h3, rfl⟩)
  omega
theorem IsEcc.uniq {N : Nb} {x m k : Nat} (h : IsEcc N x m) (h' : IsEcc N x k) : m = k := by
  obtain ⟨⟨y, hy⟩, h2⟩ := h
  obtain ⟨⟨z, hz⟩, h4⟩ := h'
  have := h2 z k hz; have := h4 y m hy
  omega
end Lp


set_option Elab.async false
set_option linter.all false
set_option maxRecDepth 100000
set_option maxHeartbeats 4000000
/-! Lp: longest ways, names, trees. -/
namespace Lp
open PySem PySem.Spec L2
local macro_rules | `(tactic| walk_at "e1") => `(tactic| first
  | (with_reducible refine y_seq ?_) | (with_reducible refine ev_var (by with_unfolding_all rfl) ?_) | (with_reducible refine ev_int ?_) | (with_reducible refine ev_bl ?_) | (with_reducible refine ev_non ?_) | (with_reducible refine ev_str ?_)
  | (with_reducible refine y_ret ?_) | (with_reducible refine y_retN ?_) | (with_reducible refine y_next ?_) | (with_reducible refine x_if ?_) | (with_reducible refine y_setM (em_call ?_)) | (with_reducible refine y_set ?_) | (with_reducible refine y_drop ?_)
  | (with_reducible refine eb_test ?_) | (with_reducible refine eb_B ?_) | (with_reducible refine eb_not ?_) | (with_reducible refine eb_and ?_) | (with_reducible refine eb_or ?_) | (with_reducible refine eb_yes ?_)
  | (with_reducible refine ev_and ?_) | (with_reducible refine ev_or ?_) | (with_reducible refine ev_not ?_) | (with_reducible refine ev_if ?_)
  | (with_reducible refine ev_I ?_) | (with_reducible refine ev_BI ?_) | (with_reducible refine ev_IC ?_) | (with_reducible refine ev_chainB ?_) | (with_reducible refine ev_un ?_)
  | (with_reducible refine ev_ixL ?_) | (with_reducible refine ev_ixT ?_) | (with_reducible refine ev_isi ?_) | (with_reducible refine ev_isN ?_) | (with_reducible refine ev_notN ?_) | (with_reducible refine ev_isB ?_) | (with_reducible refine ev_notB ?_)
  | (with_reducible refine ev_eqG ?_) | (with_reducible refine ev_neG ?_) | (with_reducible refine ev_eqD ?_) | (with_reducible refine ev_neD ?_)
  | (with_reducible refine ev_slen (by with_unfolding_all rfl) ?_) | (with_reducible refine ev_olen (by with_unfolding_all rfl) ?_) | (with_reducible refine ev_oixC (by with_unfolding_all rfl) (by with_unfolding_all rfl) (by with_unfolding_all rfl) ?_) | (with_reducible refine ev_len ?_) | (with_reducible refine ev_tup ?_) | (with_reducible refine ev_lst ?_) | (with_reducible refine ea_nil ?_) | (with_reducible refine ea_cons ?_) | (with_reducible refine ea_star ?_)
  | (with_reducible refine ev_call ?_) | (with_reducible refine em_call ?_) | (with_reducible refine em_var (by with_unfolding_all rfl) ?_) | (with_reducible refine ev_max2 ?_) | (with_reducible refine ev_min2 ?_) | (with_reducible refine ev_abs ?_)
  | (with_reducible refine ev_all ?_) | (with_reducible refine ev_any ?_) | (with_reducible refine ev_sum ?_) | (with_reducible refine ev_max ?_) | (with_reducible refine ev_min ?_) | (with_reducible refine ev_tupOf ?_)
  | (with_reducible refine ev_sortedI ?_) | (with_reducible refine ev_sortedP ?_) | (with_reducible refine ev_sortedD ?_) | (with_reducible refine ev_maxVals ?_) | (with_reducible refine ev_dget ?_) | (with_reducible refine ev_dget1 ?_) | (with_reducible refine ev_din ?_) | (with_reducible refine ev_dnotin ?_)
  | (with_reducible refine ev_slL ?_) | (with_reducible refine ev_slT ?_) | (with_reducible refine eo_none ?_) | (with_reducible refine eo_some ?_) | (with_reducible refine ev_cat ?_) | (with_reducible refine ev_ltT ?_) | (with_reducible refine ev_inI ?_)
  | (with_reducible refine ei_list ?_) | (with_reducible refine ei_tup ?_) | (with_reducible refine ei_rng1 ?_) | (with_reducible refine ei_rng2 ?_) | (with_reducible refine ei_zip ?_) | (with_reducible refine eg_name ?_) | (with_reducible refine eg_tup ?_) | (with_reducible refine egs_name ?_) | (with_reducible refine egs_nil ?_)
  | (with_reducible refine x_never ?_))
local macro_rules | `(tactic| walk_at "e") => `(tactic| first | walk_at "e1" | exact ⟨_, _, rfl, rfl, rfl⟩ | (refine ⟨_, _, rfl, rfl, ?_⟩) | (refine ⟨_, rfl, ?_⟩))
local macro_rules | `(tactic| walk_at "go") => `(tactic| repeat walk_at "e1")
noncomputable def ecc (N : Nb) (x : Nat) : Nat := @dite _ (∃ m, IsEcc N x m) (Classical.propDecidable _) (fun h => h.choose) (fun _ => 0)
theorem IsEcc.ecc {N : Nb} {x m : Nat} (h : IsEcc N x m) : ecc N x = m := by
  unfold Lp.ecc
  have e : ∃ m, IsEcc N x m := ⟨m, h⟩
  rw [dif_pos e]
  exact e.choose_spec.uniq h
/-- max(ways_from(near, place).values()) -/
theorem ev_eccM {K : PySem.W.Frag} {as : List Sl} {Φ : Φd} {N : Nb} {x : Nat} {a b : TE} (h : Ev K a as fun d as1 => Ev K b as1 fun d' as2 => d = nearL N ∧ d' = nD x ∧ N.Ok ∧ x < N.length ∧ Φ (nD (ecc N x)) as2) :
    Ev K (tMaxVals (tCall sp_ways_from [] E0 (tCons a (tCons b tNil)))) as Φ := by
  refine ev_maxVals (em_call (ea_cons (h.mono fun d as1 h1 => ea_cons (h1.mono ?_))))
  rintro d' as2 ⟨rfl, rfl, ok, hx, hΦ⟩
  refine ea_nil ⟨N, x, rfl, ok, hx, fun ks d hb => ?_⟩
  refine ⟨_, encK_snd ks d, ?_, fun m h1 h2 => ?_⟩
  · intro e
    have : x ∈ ks := hb.s_in
    rw [List.map_eq_nil_iff] at e
    rw [e] at this; cases this
  · obtain ⟨k, rfl, hk⟩ := hb.ecc h1 h2
    rw [hk.ecc] at hΦ
    exact hΦ
def A_longest_way (ds : List PyData) (Φ : PyData → Prop) : Prop := ∃ W : Web, ds = [webD W] ∧ W.Ok ∧ W.joined ∧ ∀ m : Nat, (∃ x < W.n, ecc W.near x = m) → (∀ x < W.n, ecc W.near x ≤ m) → Φ (nD m)
abbrev sp_longest_way : Sp := spD A_longest_way
def t_longest_way (K : PySem.W.Frag) : TS := (tSeq (tAsg (tCall sp_look_at_joined [] E0 (tCons (tVar 0) tNil)) (gName 1)) (tRet (tCB (rMax K) (tCons (tLc (iRng1 (tCons (tOp (rIxT K) (tVar 0) (tC (.int 0))) tNil)) (gName 2) tYes (tMaxVals (tCall sp_ways_from [] E0 (tCons (tVar 1) (tCons (tVar 2) tNil)))) [2]) tNil))))
def N_longest_way : List Str := ["web", "near", "place"]
theorem len_longest_way : ∀ vs H Q E, sp_longest_way vs H Q E → vs.length = (["web"] : List Str).length := lenD fun ds Φ h => by
  obtain ⟨W, rfl, ok, hj, h⟩ := h; rfl
theorem rd_longest_way {K : PySem.W.Frag} : ∀ vs H Q E, sp_longest_way vs H Q E → t_longest_way K { nx := fun _ H' => Q .non H', rt := Q } (L2.start N_longest_way vs) H := rd_D fun ds Φ h => by
  obtain ⟨W, rfl, ok, hj, h⟩ := h
  show Ex K _ _ [.d (webD W), .e, .e]
  unfold t_longest_way
  have o1 := ok.lo
  have o2 := ok.hi
  walk_at "go"
  refine ⟨W, rfl, ok, hj, ?_⟩
  walk_at "go"
  refine ev_lcM nD (fun x => nD (ecc W.near x)) (js := [2]) (by decide) ?_
  walk_at "go"
  refine ⟨_, 0, _, rfl, rfl, rfl, ?_⟩
  walk_at "go"
  refine ⟨_, rfl, by omega, by omega, List.range W.n, ?_, by simp; omega, ?_, ?_⟩
  · rw [Int.toNat_natCast, rangeI_nat]
  · intro x hx
    have hx := List.mem_range.mp hx
    refine eg_name (ev_eccM (N := W.near) (x := x) ?_)
    walk_at "go"
    exact ⟨rfl, rfl, ok.near, by rw [near_len]; exact hx, rfl, rfl⟩
  · walk_at "go"
    refine ⟨(List.range W.n).map fun x => ((ecc W.near x : Nat) : Int), ?_, by simp; omega, fun m h1 h2 => ?_⟩
    · rw [List.map_map]; rfl
    · obtain ⟨x, hx, rfl⟩ := List.mem_map.mp h1
      refine h _ ⟨x, List.mem_range.mp hx, rfl⟩ fun y hy => ?_
      have := h2 (ecc W.near y) (List.mem_map.mpr ⟨y, List.mem_range.mpr hy, rfl⟩)
      omega
/-! ### names -/
structure Nm (n : Nat) (f : List Nat) : Prop where
  len : f.length = n
  nodup : f.Nodup
  lt : ∀ y ∈ f, y < n
def nm (f : List Nat) (x : Nat) : Nat := (f[x]?).getD 0
theorem nm_at {f : List Nat} {x : Nat} (h : x < f.length) : atI (f.map nD) (x : Int) = some (nD (nm f x)) := by
  refine atI_nat ?_
  unfold nm
  rw [List.getElem?_map, List.getElem?_eq_getElem h]
  rfl
theorem nm_lt {n : Nat} {f : List Nat} (h : Nm n f) {x : Nat} (hx : x < n) : nm f x < n := by
  unfold nm
  have hx : x < f.length := by rw [h.len]; exact hx
  rw [List.getElem?_eq_getElem hx]
  exact h.lt _ (List.getElem_mem hx)
theorem nm_inj {n : Nat} {f : List Nat} (h : Nm n f) {x y : Nat} (hx : x < n) (hy : y < n) (e : nm f x = nm f y) : x = y := by
  unfold nm at e
  have hx : x < f.length := by rw [h.len]; exact hx
  have hy : y < f.length := by rw [h.len]; exact hy
  rw [List.getElem?_eq_getElem hx, List.getElem?_eq_getElem hy] at e
  simp only [Option.getD_some] at e
  refine (List.getElem?_inj hx h.nodup).mp ?_
  rw [List.getElem?_eq_getElem hx, List.getElem?_eq_getElem hy, e]
def nmT (f : List Nat) (t : Nat × Nat) : Nat × Nat := (min (nm f t.1) (nm f t.2), max (nm f t.1) (nm f t.2))
theorem nmT_inj {W : Web} (ok : W.Ok) {f : List Nat} (h : Nm W.n f) : (W.ts.map (nmT f)).Nodup := by
  refine List.pairwise_map.mpr (ok.asc.imp_of_mem fun {s t} hs ht hlt e => ?_)
  have h1 := ok.tie s hs
  have h2 := ok.tie t ht
  unfold nmT at e
  have e1 := congrArg Prod.fst e
  have e2 := congrArg Prod.snd e
  simp only at e1 e2
  have i1 : s.1 < W.n := by omega
  have i3 : t.1 < W.n := by omega
  have a1 := nm_inj h i1 i3; have a2 := nm_inj h i1 h2.2
  have a3 := nm_inj h h1.2 i3; have a4 := nm_inj h h1.2 h2.2
  have a5 := nm_inj h i1 h1.2; have a6 := nm_inj h i3 h2.2
  unfold ltP at hlt
  generalize nm f s.1 = p at *
  generalize nm f s.2 = q at *
  generalize nm f t.1 = u at *
  generalize nm f t.2 = v at *
  omega
theorem tie_nD {W : Web} {t : Nat × Nat} : PyData.tuple [nD t.1, nD t.2] = tD t := rfl
theorem sort_un {qs : List (Int × Int)} {ts : List (Nat × Nat)} (p : qs.Perm (ts.map castP)) (s : qs.Pairwise leP) (nd : ts.Nodup) : ∃ us : List (Nat × Nat), qs = us.map castP ∧ us.Perm ts ∧ us.Pairwise ltP := by
  have e1 : qs = (qs.map fun p => (p.1.toNat, p.2.toNat)).map castP := by
    rw [List.map_map]
    have : qs.map (castP ∘ fun p => (p.1.toNat, p.2.toNat)) = qs.map id := List.map_congr_left fun q hq => by
      obtain ⟨t, _, rfl⟩ := List.mem_map.mp (p.subset hq)
      rfl
    rw [this, List.map_id]
  have e2 : (qs.map fun p => (p.1.toNat, p.2.toNat)).Perm ts := by
    have := p.map fun p : Int × Int => (p.1.toNat, p.2.toNat)
    rw [List.map_map] at this
    have e : ts.map ((fun p : Int × Int => (p.1.toNat, p.2.toNat)) ∘ castP) = ts.map id := List.map_congr_left fun t _ => rfl
    rw [e, List.map_id] at this
    exact this
  refine ⟨_, e1, e2, ?_⟩
  rw [e1] at s
  have s2 := List.pairwise_map.mp s
  have nd2 := e2.symm.nodup nd
  refine (List.Pairwise.and s2 nd2).imp fun {a b} h => ?_
  obtain ⟨h1, h2⟩ := h
  have : a.1 ≠ b.1 ∨ a.2 ≠ b.2 := by
    by_cases h3 : a.1 = b.1
    · exact .inr fun h4 => h2 (Prod.ext h3 h4)
    · exact .inl h3
  unfold leP castP at h1
  unfold ltP
  simp only at h1
  omega
def A_told_renamed (ds : List PyData) (Φ : PyData → Prop) : Prop := ∃ (W : Web) (f : List Nat), ds = [webD W, .tuple (f.map nD)] ∧ W.Ok ∧ Nm W.n f ∧ ∀ V : Web, V.n = W.n → V.ts.Pairwise ltP → V.ts.Perm (W.ts.map (nmT f)) → Φ (webD V)
abbrev sp_told_renamed : Sp := spD A_told_renamed
def t_told_renamed (K : PySem.W.Frag) : TS := (tRet (tTup (tCons (tOp (rIxT K) (tVar 0) (tC (.int 0))) (tCons (tCB (rTupOf K) (tCons (tCB (rSortedPO K) (tCons (tLc (iTup K (tOp (rIxT K) (tVar 0) (tC (.int 1)))) (gTup K 2 (gCons (gName 2) (gCons (gName 3) gNil))) tYes (tCall sp_tie_of [] E0 (tCons (tOp (rIxT K) (tVar 1) (tVar 2)) (tCons (tOp (rIxT K) (tVar 1) (tVar 3)) tNil))) [2, 3]) tNil)) tNil)) tNil))))
def N_told_renamed : List Str := ["web", "names", "one", "other"]
theorem len_told_renamed : ∀ vs H Q E, sp_told_renamed vs H Q E → vs.length = (["web", "names"] : List Str).length := lenD fun ds Φ h => by
  obtain ⟨W, f, rfl, ok, hf, h⟩ := h; rfl
theorem rd_told_renamed {K : PySem.W.Frag} : ∀ vs H Q E, sp_told_renamed vs H Q E → t_told_renamed K { nx := fun _ H' => Q .non H', rt := Q } (L2.start N_told_renamed vs) H := rd_D fun ds Φ h => by
  obtain ⟨W, f, rfl, ok, hf, h⟩ := h
  show Ex K _ _ [.d (webD W), .d (.tuple (f.map nD)), .e, .e]
  unfold t_told_renamed
  have o1 := ok.lo
  have o2 := ok.hi
  walk_at "go"
  refine ⟨_, 0, _, rfl, rfl, rfl, ?_⟩
  walk_at "go"
  refine ev_lcM tD (fun t => tD (nmT f t)) (js := [2, 3]) (by decide) ?_
  walk_at "go"
  refine ⟨_, 1, _, rfl, rfl, rfl, _, rfl, W.ts, rfl, by have := ok.len; omega, ?_, ?_⟩
  · intro t ht
    have h1 := ok.tie t ht
    walk_at "go"
    refine ⟨_, rfl, rfl, ?_⟩
    walk_at "go"
    refine ⟨_, (t.1 : Int), _, rfl, rfl, nm_at (by rw [hf.len]; omega), ?_⟩
    walk_at "go"
    refine ⟨_, (t.2 : Int), _, rfl, rfl, nm_at (by rw [hf.len]; omega), ?_⟩
    walk_at "go"
    exact ⟨_, _, rfl, rfl, rfl⟩
  · walk_at "go"
    refine ⟨(W.ts.map (nmT f)).map castP, by rw [← map_tD, List.map_map]; rfl, fun qs pm sm => ?_⟩
    walk_at "go"
    refine ⟨_, rfl, ?_⟩
    walk_at "go"
    refine ⟨by simp, ?_⟩
    obtain ⟨us, rfl, pu, su⟩ := sort_un pm sm (nmT_inj ok hf)
    rw [← map_tD]
    exact h ⟨W.n, us⟩ rfl su pu
def A_are_names (ds : List PyData) (Φ : PyData → Prop) : Prop := ∃ (n : Nat) (f : List Nat), ds = [.tuple (f.map nD), nD n] ∧ n ≤ 40 ∧ Nm n f ∧ Φ (.bool true)
abbrev sp_are_names : Sp := spD A_are_names
def t_are_names (K : PySem.W.Frag) : TS := (tSeq (tIfS (tOr (tNot (tB (tCB (rIsi K) (tCons (tVar 0) (tCons (tC (.ty "tuple")) tNil))))) (tOr (tTest (tOp rNe (tCB (rLenS K) (tCons (tVar 0) tNil)) (tVar 1))) (tNot (tB (tCB (rAll K) (tCons (tLc (iTup K (tVar 0)) (gName 2) tYes (tCall sp_is_int [] E0 (tCons (tVar 2) (tCons (tC (.int 0)) (tCons (tOp (rI0 fun i j => .int (i - j)) (tVar 1) (tC (.int 1))) tNil)))) [2]) tNil)))))) (tRet (tC (.bl false))) tNext) (tRet (tOp rEq (tLenSetT K (tVar 0)) (tVar 1))))
def N_are_names : List Str := ["value", "many", "one"]
theorem len_are_names : ∀ vs H Q E, sp_are_names vs H Q E → vs.length = (["value", "many"] : List Str).length := lenD fun ds Φ h => by
  obtain ⟨n, f, rfl, hn, hf, h⟩ := h; rfl
theorem rd_are_names {K : PySem.W.Frag} : ∀ vs H Q E, sp_are_names vs H Q E → t_are_names K { nx := fun _ H' => Q .non H', rt := Q } (L2.start N_are_names vs) H := rd_D fun ds Φ h => by
  obtain ⟨n, f, rfl, hn, hf, h⟩ := h
  show Ex K _ _ [.d (.tuple (f.map nD)), .d (nD n), .e]
  unfold t_are_names
  have hl := hf.len
  walk_at "go"
  refine ⟨true, rfl, ?_⟩
  refine ⟨true, rfl, fun _ => ?_, nofun⟩
  walk_at "go"
  refine ⟨_, _, rfl, rfl, ?_⟩
  walk_at "go"
  refine ⟨_, rfl, _, rfl, fun _ => ?_, fun z => ?_⟩
  · walk_at "go"
    refine ev_lcM nD (fun _ => .bool true) (js := [2]) (by decide) ?_
    walk_at "go"
    refine ⟨_, rfl, f, rfl, by omega, ?_, ?_⟩
    · intro x hx
      have := hf.lt x hx
      walk_at "go"
      refine ⟨_, _, rfl, rfl, ?_⟩
      walk_at "go"
      exact is_int_t (by omega) (by omega) ⟨rfl, rfl⟩
    · walk_at "go"
      refine ⟨f.map fun _ => true, ?_, ?_⟩
      · rw [bools_t]
      · rw [all_map_t]
        refine ⟨_, rfl, nofun, fun _ => ?_⟩
        walk_at "go"
        refine ev_lenSetT ?_
        walk_at "go"
        refine ⟨f.map Int.ofNat, by rw [map_nD], ?_, by rw [List.length_map]; omega, ?_⟩
        · refine List.pairwise_map.mpr (hf.nodup.imp fun {a b} hab e => hab (Int.ofNat.inj e))
        · walk_at "go"
          refine ⟨_, rfl, ?_⟩
          rw [List.length_map, hl, decide_eq_true rfl]
          exact h
  · simp [hl] at z
def A_renamed (ds : List PyData) (Φ : PyData → Prop) : Prop := A_told_renamed ds Φ
abbrev sp_renamed : Sp := spD A_renamed
def t_renamed (K : PySem.W.Frag) : TS := (tSeq (tDrop (tCall sp_look_at_web [] E0 (tCons (tVar 0) tNil))) (tSeq (tIfS (tNot (tB (tCall sp_are_names [] E0 (tCons (tVar 1) (tCons (tOp (rIxT K) (tVar 0) (tC (.int 0))) tNil))))) tNever tNext) (tRet (tCall sp_told_renamed [] E0 (tCons (tVar 0) (tCons (tVar 1) tNil))))))
def N_renamed : List Str := ["web", "names"]
theorem len_renamed : ∀ vs H Q E, sp_renamed vs H Q E → vs.length = (["web", "names"] : List Str).length := lenD fun ds Φ h => by
  obtain ⟨W, f, rfl, ok, hf, h⟩ := h; rfl
theorem rd_renamed {K : PySem.W.Frag} : ∀ vs H Q E, sp_renamed vs H Q E → t_renamed K { nx := fun _ H' => Q .non H', rt := Q } (L2.start N_renamed vs) H := rd_D fun ds Φ h => by
  obtain ⟨W, f, rfl, ok, hf, h⟩ := h
  show Ex K _ _ [.d (webD W), .d (.tuple (f.map nD))]
  unfold t_renamed
  have o2 := ok.hi
  walk_at "go"
  refine ⟨W, rfl, ok, ?_⟩
  walk_at "go"
  refine ⟨_, 0, _, rfl, rfl, rfl, ?_⟩
  walk_at "go"
  refine ⟨W.n, f, rfl, o2, hf, _, rfl, nofun, fun _ => ?_⟩
  walk_at "go"
  exact ⟨W, f, rfl, ok, hf, h⟩
/-! ### trees -/
def Web.tree (W : Web) : Prop := W.ts.length + 1 = W.n ∧ W.joined
def A_is_told_tree (ds : List PyData) (Φ : PyData → Prop) : Prop := ∃ W : Web, ds = [webD W] ∧ W.Ok ∧ ∀ b : Bool, (b = true ↔ W.tree) → Φ (.bool b)
abbrev sp_is_told_tree : Sp := spD A_is_told_tree
def t_is_told_tree (K : PySem.W.Frag) : TS := (tRet (tAndV (tOp rEq (tCB (rLenS K) (tCons (tOp (rIxT K) (tVar 0) (tC (.int 1))) tNil)) (tOp (rI0 fun i j => .int (i - j)) (tOp (rIxT K) (tVar 0) (tC (.int 0))) (tC (.int 1)))) (tCall sp_is_joined [] E0 (tCons (tCall sp_near_of [] E0 (tCons (tVar 0) tNil)) tNil))))
def N_is_told_tree : List Str := ["web"]
theorem len_is_told_tree : ∀ vs H Q E, sp_is_told_tree vs H Q E → vs.length = (["web"] : List Str).length := lenD fun ds Φ h => by
  obtain ⟨W, rfl, ok, h⟩ := h; rfl
theorem rd_is_told_tree {K : PySem.W.Frag} : ∀ vs H Q E, sp_is_told_tree vs H Q E → t_is_told_tree K { nx := fun _ H' => Q .non H', rt := Q } (L2.start N_is_told_tree vs) H := rd_D fun ds Φ h => by
  obtain ⟨W, rfl, ok, h⟩ := h
  show Ex K _ _ [.d (webD W)]
  unfold t_is_told_tree
  have o1 := ok.lo
  walk_at "go"
  refine ⟨_, 1, _, rfl, rfl, rfl, ?_⟩
  walk_at "go"
  refine ⟨_, _, rfl, rfl, ?_⟩
  walk_at "go"
  refine ⟨_, 0, _, rfl, rfl, rfl, ?_⟩
  walk_at "go"
  refine ⟨_, _, rfl, rfl, _, rfl, _, rfl, fun hb => ?_, fun hb => ?_⟩
  · have hb := of_decide_eq_true hb
    rw [List.length_map] at hb
    walk_at "go"
    refine ⟨W, rfl, ok, ?_⟩
    walk_at "go"
    rw [nearD_eq]
    refine ⟨W.near, rfl, ok.near, by rw [near_len]; omega, fun b hb' => ?_⟩
    rw [near_len] at hb'
    refine h b (hb'.trans ⟨fun z => ⟨by omega, z⟩, fun z => z.2⟩)
  · have hb := of_decide_eq_false hb
    rw [List.length_map] at hb
    refine h false ⟨nofun, fun z => absurd z.1 (by omega)⟩
def A_is_tree (ds : List PyData) (Φ : PyData → Prop) : Prop := A_is_told_tree ds Φ
abbrev sp_is_tree : Sp := spD A_is_tree
def t_is_tree (K : PySem.W.Frag) : TS := (tRet (tAndV (tCall sp_is_told_web [] E0 (tCons (tVar 0) tNil)) (tCall sp_is_told_tree [] E0 (tCons (tVar 0) tNil))))
def N_is_tree : List Str := ["value"]
theorem len_is_tree : ∀ vs H Q E, sp_is_tree vs H Q E → vs.length = (["value"] : List Str).length := lenD fun ds Φ h => by
  obtain ⟨W, rfl, ok, h⟩ := h; rfl
theorem rd_is_tree {K : PySem.W.Frag} : ∀ vs H Q E, sp_is_tree vs H Q E → t_is_tree K { nx := fun _ H' => Q .non H', rt := Q } (L2.start N_is_tree vs) H := rd_D fun ds Φ h => by
  obtain ⟨W, rfl, ok, h⟩ := h
  show Ex K _ _ [.d (webD W)]
  unfold t_is_tree
  walk_at "go"
  refine ⟨W, rfl, ok, true, rfl, fun _ => ?_, nofun⟩
  walk_at "go"
  exact ⟨W, rfl, ok, h⟩
def A_look_at_tree (ds : List PyData) (Φ : PyData → Prop) : Prop := ∃ W : Web, ds = [webD W] ∧ W.Ok ∧ W.tree ∧ Φ (nearL W.near)
abbrev sp_look_at_tree : Sp := spD A_look_at_tree
def t_look_at_tree (K : PySem.W.Frag) : TS := (tSeq (tDrop (tCall sp_look_at_web [] E0 (tCons (tVar 0) tNil))) (tSeq (tIfS (tNot (tB (tCall sp_is_told_tree [] E0 (tCons (tVar 0) tNil)))) tNever tNext) (tRet (tCall sp_near_of [] E0 (tCons (tVar 0) tNil)))))
def N_look_at_tree : List Str := ["web"]
theorem len_look_at_tree : ∀ vs H Q E, sp_look_at_tree vs H Q E → vs.length = (["web"] : List Str).length := lenD fun ds Φ h => by
  obtain ⟨W, rfl, ok, ht, h⟩ := h; rfl
theorem rd_look_at_tree {K : PySem.W.Frag} : ∀ vs H Q E, sp_look_at_tree vs H Q E → t_look_at_tree K { nx := fun _ H' => Q .non H', rt := Q } (L2.start N_look_at_tree vs) H := rd_D fun ds Φ h => by
  obtain ⟨W, rfl, ok, ht, h⟩ := h
  show Ex K _ _ [.d (webD W)]
  unfold t_look_at_tree
  walk_at "go"
  refine ⟨W, rfl, ok, ?_⟩
  walk_at "go"
  refine ⟨W, rfl, ok, fun b hb => ?_⟩
  have : b = true := hb.mpr ht
  subst this
  refine ⟨_, rfl, nofun, fun _ => ?_⟩
  walk_at "go"
  exact ⟨W, rfl, ok, by rw [nearD_eq]; exact h⟩
end Lp


set_option Elab.async false
set_option linter.all false
set_option maxRecDepth 100000
set_option maxHeartbeats 4000000
/-! Lp: arms, middles. -/
namespace Lp
open PySem PySem.Spec L2
local macro_rules | `(tactic| walk_at "e1") => `(tactic| first
  | (with_reducible refine y_seq ?_) | (with_reducible refine ev_var (by with_unfolding_all rfl) ?_) | (with_reducible refine ev_int ?_) | (with_reducible refine ev_bl ?_) | (with_reducible refine ev_non ?_) | (with_reducible refine ev_str ?_)
  | (with_reducible refine y_ret ?_) | (with_reducible refine y_retN ?_) | (with_reducible refine y_next ?_) | (with_reducible refine x_if ?_) | (with_reducible refine y_setM (em_call ?_)) | (with_reducible refine y_set ?_) | (with_reducible refine y_drop ?_)
  | (with_reducible refine eb_test ?_) | (with_reducible refine eb_B ?_) | (with_reducible refine eb_not ?_) | (with_reducible refine eb_and ?_) | (with_reducible refine eb_or ?_) | (with_reducible refine eb_yes ?_)
  | (with_reducible refine ev_and ?_) | (with_reducible refine ev_or ?_) | (with_reducible refine ev_not ?_) | (with_reducible refine ev_if ?_)
  | (with_reducible refine ev_I ?_) | (with_reducible refine ev_BI ?_) | (with_reducible refine ev_IC ?_) | (with_reducible refine ev_chainB ?_) | (with_reducible refine ev_un ?_)
  | (with_reducible refine ev_ixL ?_) | (with_reducible refine ev_ixT ?_) | (with_reducible refine ev_isi ?_) | (with_reducible refine ev_isN ?_) | (with_reducible refine ev_notN ?_) | (with_reducible refine ev_isB ?_) | (with_reducible refine ev_notB ?_)
  | (with_reducible refine ev_eqG ?_) | (with_reducible refine ev_neG ?_) | (with_reducible refine ev_eqD ?_) | (with_reducible refine ev_neD ?_)
  | (with_reducible refine ev_slen (by with_unfolding_all rfl) ?_) | (with_reducible refine ev_olen (by with_unfolding_all rfl) ?_) | (with_reducible refine ev_oixC (by with_unfolding_all rfl) (by with_unfolding_all rfl) (by with_unfolding_all rfl) ?_) | (with_reducible refine ev_len ?_) | (with_reducible refine ev_tup ?_) | (with_reducible refine ev_lst ?_) | (with_reducible refine ea_nil ?_) | (with_reducible refine ea_cons ?_) | (with_reducible refine ea_star ?_)
  | (with_reducible refine ev_call ?_) | (with_reducible refine em_call ?_) | (with_reducible refine em_var (by with_unfolding_all rfl) ?_) | (with_reducible refine ev_max2 ?_) | (with_reducible refine ev_min2 ?_) | (with_reducible refine ev_abs ?_)
  | (with_reducible refine ev_all ?_) | (with_reducible refine ev_any ?_) | (with_reducible refine ev_sum ?_) | (with_reducible refine ev_max ?_) | (with_reducible refine ev_min ?_) | (with_reducible refine ev_tupOf ?_)
  | (with_reducible refine ev_sortedI ?_) | (with_reducible refine ev_sortedP ?_) | (with_reducible refine ev_sortedD ?_) | (with_reducible refine ev_maxVals ?_) | (with_reducible refine ev_dget ?_) | (with_reducible refine ev_dget1 ?_) | (with_reducible refine ev_din ?_) | (with_reducible refine ev_dnotin ?_)
  | (with_reducible refine ev_slL ?_) | (with_reducible refine ev_slT ?_) | (with_reducible refine eo_none ?_) | (with_reducible refine eo_some ?_) | (with_reducible refine ev_cat ?_) | (with_reducible refine ev_ltT ?_) | (with_reducible refine ev_inI ?_)
  | (with_reducible refine ei_list ?_) | (with_reducible refine ei_tup ?_) | (with_reducible refine ei_rng1 ?_) | (with_reducible refine ei_rng2 ?_) | (with_reducible refine ei_zip ?_) | (with_reducible refine eg_name ?_) | (with_reducible refine eg_tup ?_) | (with_reducible refine egs_name ?_) | (with_reducible refine egs_nil ?_)
  | (with_reducible refine x_never ?_))
local macro_rules | `(tactic| walk_at "e") => `(tactic| first | walk_at "e1" | exact ⟨_, _, rfl, rfl, rfl⟩ | (refine ⟨_, _, rfl, rfl, ?_⟩) | (refine ⟨_, rfl, ?_⟩))
local macro_rules | `(tactic| walk_at "go") => `(tactic| repeat walk_at "e1")
theorem ne_dec (y p : Nat) : (!decide ((y : Int) = (p : Int))) = decide (y ≠ p) := by
  by_cases h : y = p
  · simp [h]
  · have : ¬ (y : Int) = (p : Int) := by omega
    simp [h, this]
def armsAt (N : Nb) (p : Nat) : List (Nat × Nat) := (step N p).flatMap fun one => (((step N one).filter fun y => decide (y ≠ p)).head?.map fun z => (one, z)).toList
def A_arms_at (ds : List PyData) (Φ : PyData → Prop) : Prop := ∃ (N : Nb) (p : Nat), ds = [nearL N, nD p] ∧ N.Ok ∧ p < N.length ∧ Φ (.list ((armsAt N p).map tD))
theorem armsAt_len (N : Nb) (p : Nat) (k : Nat) : (((step N p).take k).flatMap fun one => (((step N one).filter fun y => decide (y ≠ p)).head?.map fun z => (one, z)).toList).length ≤ (step N p).length := by
  have : ∀ xs : List Nat, (xs.flatMap fun one => (((step N one).filter fun y => decide (y ≠ p)).head?.map fun z => (one, z)).toList).length ≤ xs.length := by
    intro xs
    induction xs with
    | nil => simp
    | cons x xs ih =>
      rw [List.flatMap_cons, List.length_append]
      have : ((((step N x).filter fun y => decide (y ≠ p)).head?.map fun z => (x, z)).toList).length ≤ 1 := by
        cases ((step N x).filter fun y => decide (y ≠ p)).head? <;> simp
      simp only [List.length_cons]; omega
  have h1 := this ((step N p).take k)
  rw [List.length_take] at h1
  omega
abbrev sp_arms_at : Sp := spD A_arms_at
def t_arms_at (K : PySem.W.Frag) : TS := (tSeq (tAsg (tLst tNil) (gName 2)) (tSeq (tFor (iList K (tOp (rIxL K) (tVar 0) (tVar 1))) (gName 3) (tSeq (tAsg (tLc (iList K (tOp (rIxL K) (tVar 0) (tVar 3))) (gName 5) (tTest (tOp rNe (tVar 5) (tVar 1))) (tVar 5) [5]) (gName 4)) (tDrop (tBM K "list" rExtend (tVar 2) (tCons (tIf (tTest (tOp (rNeD K) (tVar 4) (tLst tNil))) (tLst (tCons (tTup (tCons (tVar 3) (tCons (tOp (rIxL K) (tVar 4) (tC (.int 0))) tNil))) tNil)) (tLst tNil)) tNil))))) (tRet (tVar 2))))
def N_arms_at : List Str := ["near", "place", "found", "one", "behind", "other"]
theorem len_arms_at : ∀ vs H Q E, sp_arms_at vs H Q E → vs.length = (["near", "place"] : List Str).length := lenD fun ds Φ h => by
  obtain ⟨N, p, rfl, ok, hp, h⟩ := h; rfl
theorem rd_arms_at {K : PySem.W.Frag} : ∀ vs H Q E, sp_arms_at vs H Q E → t_arms_at K { nx := fun _ H' => Q .non H', rt := Q } (L2.start N_arms_at vs) H := rd_D fun ds Φ h => by
  obtain ⟨N, p, rfl, ok, hp, h⟩ := h
  show Ex K _ _ [.d (nearL N), .d (nD p), .e, .e, .e, .e]
  unfold t_arms_at
  refine y_seq (y_setN (en_lst ?_))
  walk_at "go"
  refine ⟨by simp, fun a => ?_⟩
  refine y_seq (y_for (js := [3]) ?_)
  walk_at "go"
  refine ⟨_, p, _, rfl, rfl, near_at hp, _, rfl, fun i as' => ∃ s3 s4 s5, as' = [.d (nearL N), .d (nD p), .o a (.lst ((((step N p).take i).flatMap fun one => (((step N one).filter fun y => decide (y ≠ p)).head?.map fun z => (one, z)).toList).map tD)), s3, s4, s5], ⟨_, _, _, rfl⟩, ?_, ?_⟩
  · rintro i x as' hx ⟨s3, s4, s5, rfl⟩
    rw [List.getElem?_map] at hx
    obtain ⟨q, hq, rfl⟩ := Option.map_eq_some_iff.mp hx
    have hqm : q ∈ step N p := List.mem_of_getElem? hq
    have hqn := ok.lt p q hqm
    have hz := ok.sz p
    have hl := armsAt_len N p i
    refine eg_name (y_seq (y_set ?_))
    refine ev_lcF nD (fun y => decide (y ≠ p)) nD (js := [5]) (by decide) ?_
    walk_at "go"
    refine ⟨_, q, _, rfl, rfl, near_at hqn, _, rfl, step N q, rfl, by have := ok.sz q; omega, ?_, ?_⟩
    · intro y hy
      walk_at "go"
      refine ⟨_, rfl, _, rfl, ?_, fun hb => ?_, fun _ => rfl⟩
      · exact ne_dec y p
      · walk_at "go"
        exact ⟨rfl, rfl⟩
    · refine y_ext rfl ?_
      walk_at "go"
      have e1 : ∀ ys : List Nat, SeqAt.shaped (.list (ys.map nD)) = true := fun ys => (shp_nbD ys).ok
      refine ⟨by simp, e1 _, rfl, _, rfl, fun hb => ?_, fun hb => ?_⟩
      · rw [show (!PyData.eqv (.list (((step N q).filter fun y => decide (y ≠ p)).map nD)) (.list [])) = decide (((step N q).filter fun y => decide (y ≠ p)) ≠ []) from nbD_ne] at hb
        have hb := of_decide_eq_true hb
        obtain ⟨z, zs, hzs⟩ := List.exists_cons_of_ne_nil hb
        walk_at "go"
        refine ⟨_, 0, nD z, rfl, rfl, ?_, ?_⟩
        · rw [hzs]; exact atI_nat (k := 0) rfl
        walk_at "go"
        refine ⟨by simp, ?_⟩
        walk_at "go"
        refine ⟨by simp, _, _, rfl, rfl, ?_, .d (nD q), .d (.list (((step N q).filter fun y => decide (y ≠ p)).map nD)), keepS s5, ?_⟩
        · rw [List.length_map]; show _ + 1 ≤ 100000; omega
        · rw [List.take_add_one, hq, List.flatMap_append, List.map_append]
          simp only [Option.toList_some, List.flatMap_cons, List.flatMap_nil, List.append_nil]
          rw [hzs]
          rfl
      · rw [show (!PyData.eqv (.list (((step N q).filter fun y => decide (y ≠ p)).map nD)) (.list [])) = decide (((step N q).filter fun y => decide (y ≠ p)) ≠ []) from nbD_ne] at hb
        have hb : ((step N q).filter fun y => decide (y ≠ p)) = [] := by simpa using hb
        walk_at "go"
        refine ⟨by simp, _, _, rfl, rfl, ?_, .d (nD q), .d (.list (((step N q).filter fun y => decide (y ≠ p)).map nD)), keepS s5, ?_⟩
        · rw [List.length_map]; show _ + 0 ≤ 100000; omega
        · rw [List.take_add_one, hq, List.flatMap_append, List.map_append]
          simp only [Option.toList_some, List.flatMap_cons, List.flatMap_nil, List.append_nil]
          rw [hb]
          simp only [List.head?_nil, Option.map_none, Option.toList_none, List.map_nil, List.append_nil]
          rfl
  · rintro as' ⟨s3, s4, s5, rfl⟩
    rw [List.length_map, List.take_length]
    refine x_freeze (j := 2) rfl ?_
    walk_at "go"
    exact h
theorem cut_to (xs : List PyData) (k : Nat) : cutD xs none (some (k : Int)) = xs.take k := by
  unfold cutD HT.sIx
  have h : ¬ (k : Int) < 0 := by omega
  simp only [h, if_false, Int.toNat_natCast, List.drop_zero, Nat.sub_zero]
  rcases Nat.le_total k xs.length with h1 | h1
  · rw [Nat.min_eq_left h1]
  · rw [Nat.min_eq_right h1, List.take_of_length_le (Nat.le_refl _), List.take_of_length_le h1]
def A_told_arms (ds : List PyData) (Φ : PyData → Prop) : Prop := ∃ (N : Nb), ds = [nearL N] ∧ N.Ok ∧ ((∀ x < N.length, (armsAt N x).length < 3) → Φ .none) ∧ ∀ x < N.length, 3 ≤ (armsAt N x).length → (∀ y < x, (armsAt N y).length < 3) → Φ (.tuple [nD x, .tuple (((armsAt N x).take 3).map tD)])
abbrev sp_told_arms : Sp := spD A_told_arms
def t_told_arms (K : PySem.W.Frag) : TS := (tSeq (tFor (iRng1 (tCons (tCB (rLenS K) (tCons (tVar 0) tNil)) tNil)) (gName 1) (tSeq (tAsg (tCall sp_arms_at [] E0 (tCons (tVar 0) (tCons (tVar 1) tNil))) (gName 2)) (tIfS (tTest (tOp (rI0 fun i j => .bl (decide (j ≤ i))) (tCB (rLenS K) (tCons (tVar 2) tNil)) (tC (.int 3)))) (tRet (tTup (tCons (tVar 1) (tCons (tCB (rTupOf K) (tCons (tSl (rSlL K) (tVar 2) tNoPart (tPart (tC (.int 3)))) tNil)) tNil)))) tNext))) (tRet (tC .non)))
def N_told_arms : List Str := ["near", "place", "some"]
theorem len_told_arms : ∀ vs H Q E, sp_told_arms vs H Q E → vs.length = (["near"] : List Str).length := lenD fun ds Φ h => by
  obtain ⟨N, rfl, ok, h1, h2⟩ := h; rfl
theorem rd_told_arms {K : PySem.W.Frag} : ∀ vs H Q E, sp_told_arms vs H Q E → t_told_arms K { nx := fun _ H' => Q .non H', rt := Q } (L2.start N_told_arms vs) H := rd_D fun ds Φ h => by
  obtain ⟨N, rfl, ok, h1, h2⟩ := h
  show Ex K _ _ [.d (nearL N), .e, .e]
  unfold t_told_arms
  have hN := ok.hi
  refine y_seq (y_for (js := [1]) ?_)
  walk_at "go"
  refine ⟨_, _, rfl, rfl, ?_⟩
  walk_at "go"
  refine ⟨_, rfl, by rw [List.length_map]; omega, by omega, fun i as' => ∃ s1 s2, as' = [.d (nearL N), s1, s2] ∧ ∀ x < i, (armsAt N x).length < 3, ⟨_, _, rfl, nofun⟩, ?_, ?_⟩
  · rintro i x as' hx ⟨s1, s2, rfl, hi⟩
    rw [Int.toNat_natCast, rangeI_nat, List.length_map] at hx
    obtain ⟨hin, rfl⟩ := range_at hx
    walk_at "go"
    refine ⟨N, i, rfl, ok, hin, ?_⟩
    walk_at "go"
    refine ⟨_, _, rfl, rfl, ?_⟩
    walk_at "go"
    refine ⟨_, _, rfl, rfl, _, rfl, fun hb => ?_, fun hb => ?_⟩
    · have hb := of_decide_eq_true hb
      rw [List.length_map] at hb
      walk_at "go"
      refine ⟨_, rfl, ?_⟩
      walk_at "go"
      refine ⟨_, rfl, ?_⟩
      walk_at "go"
      refine ⟨_, rfl, ?_⟩
      walk_at "go"
      refine ⟨by simp, ?_⟩
      rw [show (3 : Int) = ((3 : Nat) : Int) from rfl, cut_to, ← List.map_take]
      exact h2 i hin (by omega) hi
    · have hb := of_decide_eq_false hb
      rw [List.length_map] at hb
      refine y_next ⟨_, _, rfl, fun x hx => ?_⟩
      by_cases e : x = i
      · subst e; omega
      · exact hi x (by omega)
  · rintro as' ⟨s1, s2, rfl, hi⟩
    walk_at "go"
    refine h1 fun x hx => hi x ?_
    rw [List.length_map, rangeI_len, Int.toNat_natCast, List.length_map]
    exact hx
def Web.hairy (W : Web) : Prop := ∀ x < W.n, (armsAt W.near x).length < 3
def A_is_hairy_row (ds : List PyData) (Φ : PyData → Prop) : Prop := ∃ W : Web, ds = [webD W] ∧ W.Ok ∧ W.tree ∧ ∀ b : Bool, (b = true ↔ W.hairy) → Φ (.bool b)
abbrev sp_is_hairy_row : Sp := spD A_is_hairy_row
def t_is_hairy_row (K : PySem.W.Frag) : TS := (tRet (tOp (fun x y H Q => y = .non ∧ Q (.bl (decide (x = .non))) H) (tCall sp_told_arms [] E0 (tCons (tCall sp_look_at_tree [] E0 (tCons (tVar 0) tNil)) tNil)) (tC .non)))
def N_is_hairy_row : List Str := ["web"]
theorem len_is_hairy_row : ∀ vs H Q E, sp_is_hairy_row vs H Q E → vs.length = (["web"] : List Str).length := lenD fun ds Φ h => by
  obtain ⟨W, rfl, ok, ht, h⟩ := h; rfl
theorem rd_is_hairy_row {K : PySem.W.Frag} : ∀ vs H Q E, sp_is_hairy_row vs H Q E → t_is_hairy_row K { nx := fun _ H' => Q .non H', rt := Q } (L2.start N_is_hairy_row vs) H := rd_D fun ds Φ h => by
  obtain ⟨W, rfl, ok, ht, h⟩ := h
  show Ex K _ _ [.d (webD W)]
  unfold t_is_hairy_row
  walk_at "go"
  refine ⟨W, rfl, ok, ht, ?_⟩
  walk_at "go"
  refine ⟨W.near, rfl, ok.near, fun ha => ?_, fun x hx h3 hy => ?_⟩
  · rw [near_len] at ha
    exact h true ⟨fun _ => ha, fun _ => rfl⟩
  · rw [near_len] at hx
    exact h false ⟨nofun, fun z => absurd (z x hx) (by omega)⟩
def A_long_arms (ds : List PyData) (Φ : PyData → Prop) : Prop := ∃ W : Web, ds = [webD W] ∧ W.Ok ∧ W.tree ∧ (W.hairy → Φ .none) ∧ ∀ x < W.n, 3 ≤ (armsAt W.near x).length → (∀ y < x, (armsAt W.near y).length < 3) → Φ (.tuple [nD x, .tuple (((armsAt W.near x).take 3).map tD)])
abbrev sp_long_arms : Sp := spD A_long_arms
def t_long_arms (K : PySem.W.Frag) : TS := (tRet (tCall sp_told_arms [] E0 (tCons (tCall sp_look_at_tree [] E0 (tCons (tVar 0) tNil)) tNil)))
def N_long_arms : List Str := ["web"]
theorem len_long_arms : ∀ vs H Q E, sp_long_arms vs H Q E → vs.length = (["web"] : List Str).length := lenD fun ds Φ h => by
  obtain ⟨W, rfl, ok, ht, h1, h2⟩ := h; rfl
theorem rd_long_arms {K : PySem.W.Frag} : ∀ vs H Q E, sp_long_arms vs H Q E → t_long_arms K { nx := fun _ H' => Q .non H', rt := Q } (L2.start N_long_arms vs) H := rd_D fun ds Φ h => by
  obtain ⟨W, rfl, ok, ht, h1, h2⟩ := h
  show Ex K _ _ [.d (webD W)]
  unfold t_long_arms
  walk_at "go"
  refine ⟨W, rfl, ok, ht, ?_⟩
  walk_at "go"
  refine ⟨W.near, rfl, ok.near, fun ha => ?_, fun x hx h3 hy => ?_⟩
  · rw [near_len] at ha
    exact h1 ha
  · rw [near_len] at hx
    exact h2 x hx h3 hy
theorem exists_min (g : Nat → Nat) : ∀ n, 0 < n → ∃ m, (∃ x < n, g x = m) ∧ ∀ x < n, m ≤ g x
  | 1, _ => ⟨g 0, ⟨0, by omega, rfl⟩, fun x hx => by rw [show x = 0 by omega]; omega⟩
  | n + 2, _ => by
    obtain ⟨m, ⟨x, hx, e⟩, h⟩ := exists_min g (n + 1) (by omega)
    by_cases hm : m ≤ g (n + 1)
    · exact ⟨m, ⟨x, by omega, e⟩, fun y hy => by
        by_cases ey : y = n + 1
        · subst ey; exact hm
        · exact h y (by omega)⟩
    · exact ⟨g (n + 1), ⟨n + 1, by omega, rfl⟩, fun y hy => by
        by_cases ey : y = n + 1
        · subst ey; omega
        · have := h y (by omega); omega⟩
def A_middle (ds : List PyData) (Φ : PyData → Prop) : Prop := ∃ W : Web, ds = [webD W] ∧ W.Ok ∧ W.tree ∧ ∀ m : Nat, (∃ x < W.n, ecc W.near x = m) → (∀ x < W.n, m ≤ ecc W.near x) → Φ (.tuple (((List.range W.n).filter fun x => decide (ecc W.near x = m)).map nD))
abbrev sp_middle : Sp := spD A_middle
def t_middle (K : PySem.W.Frag) : TS := (tSeq (tAsg (tCall sp_look_at_tree [] E0 (tCons (tVar 0) tNil)) (gName 1)) (tSeq (tAsg (tLc (iRng1 (tCons (tOp (rIxT K) (tVar 0) (tC (.int 0))) tNil)) (gName 3) tYes (tMaxVals (tCall sp_ways_from [] E0 (tCons (tVar 1) (tCons (tVar 3) tNil)))) [3]) (gName 2)) (tRet (tCB (rTupOf K) (tCons (tLc (iRng1 (tCons (tOp (rIxT K) (tVar 0) (tC (.int 0))) tNil)) (gName 3) (tTest (tOp rEq (tOp (rIxL K) (tVar 2) (tVar 3)) (tCB (rMin K) (tCons (tVar 2) tNil)))) (tVar 3) [3]) tNil)))))
def N_middle : List Str := ["web", "near", "far", "place"]
theorem len_middle : ∀ vs H Q E, sp_middle vs H Q E → vs.length = (["web"] : List Str).length := lenD fun ds Φ h => by
  obtain ⟨W, rfl, ok, ht, h⟩ := h; rfl
theorem rd_middle {K : PySem.W.Frag} : ∀ vs H Q E, sp_middle vs H Q E → t_middle K { nx := fun _ H' => Q .non H', rt := Q } (L2.start N_middle vs) H := rd_D fun ds Φ h => by
  obtain ⟨W, rfl, ok, ht, h⟩ := h
  show Ex K _ _ [.d (webD W), .e, .e, .e]
  unfold t_middle
  have o1 := ok.lo
  have o2 := ok.hi
  obtain ⟨m, hm1, hm2⟩ := exists_min (ecc W.near) W.n (by omega)
  walk_at "go"
  refine ⟨W, rfl, ok, ht, ?_⟩
  refine y_seq (y_set ?_)
  refine ev_lcM nD (fun x => nD (ecc W.near x)) (js := [3]) (by decide) ?_
  walk_at "go"
  refine ⟨_, 0, _, rfl, rfl, rfl, ?_⟩
  walk_at "go"
  refine ⟨_, rfl, by omega, by omega, List.range W.n, ?_, by simp; omega, ?_, ?_⟩
  · rw [Int.toNat_natCast, rangeI_nat]
  · intro x hx
    have hx := List.mem_range.mp hx
    refine eg_name (ev_eccM (N := W.near) (x := x) ?_)
    walk_at "go"
    exact ⟨rfl, rfl, ok.near, by rw [near_len]; exact hx, rfl, rfl⟩
  walk_at "go"
  refine ev_lcF nD (fun x => decide (ecc W.near x = m)) nD (js := [3]) (by decide) ?_
  walk_at "go"
  refine ⟨_, 0, _, rfl, rfl, rfl, ?_⟩
  walk_at "go"
  refine ⟨_, rfl, by omega, by omega, List.range W.n, ?_, by simp; omega, ?_, ?_⟩
  · rw [Int.toNat_natCast, rangeI_nat]
  · intro x hx
    have hx := List.mem_range.mp hx
    walk_at "go"
    refine ⟨_, x, nD (ecc W.near x), rfl, rfl, atI_nat (by simp [hx]), ?_⟩
    walk_at "go"
    refine ⟨(List.range W.n).map fun x => ((ecc W.near x : Nat) : Int), by rw [List.map_map]; rfl, by simp; omega, fun m' h1 h2 => ?_⟩
    obtain ⟨y, hy, rfl⟩ := List.mem_map.mp h1
    have hy := List.mem_range.mp hy
    have e : ecc W.near y = m := by
      obtain ⟨z, hz, e⟩ := hm1
      have := h2 (ecc W.near z) (List.mem_map.mpr ⟨z, List.mem_range.mpr hz, rfl⟩)
      have := hm2 y hy
      omega
    refine ⟨_, rfl, _, rfl, ?_, fun hb => ?_, fun _ => rfl⟩
    · rw [e]; exact decide_eq_decide.mpr (by omega)
    · walk_at "go"
      exact ⟨rfl, rfl⟩
  · walk_at "go"
    exact ⟨_, rfl, h m hm1 hm2⟩
end Lp


set_option Elab.async false
set_option linter.all false
set_option maxRecDepth 100000
set_option maxHeartbeats 4000000
/-! Lp: families of webs. -/
namespace Lp
open PySem PySem.Spec L2
local macro_rules | `(tactic| walk_at "e1") => `(tactic| first
  | (with_reducible refine y_seq ?_) | (with_reducible refine ev_var (by with_unfolding_all rfl) ?_) | (with_reducible refine ev_int ?_) | (with_reducible refine ev_bl ?_) | (with_reducible refine ev_non ?_) | (with_reducible refine ev_str ?_)
  | (with_reducible refine y_ret ?_) | (with_reducible refine y_retN ?_) | (with_reducible refine y_next ?_) | (with_reducible refine x_if ?_) | (with_reducible refine y_setM (em_call ?_)) | (with_reducible refine y_set ?_) | (with_reducible refine y_drop ?_)
  | (with_reducible refine eb_test ?_) | (with_reducible refine eb_B ?_) | (with_reducible refine eb_not ?_) | (with_reducible refine eb_and ?_) | (with_reducible refine eb_or ?_) | (with_reducible refine eb_yes ?_)
  | (with_reducible refine ev_and ?_) | (with_reducible refine ev_or ?_) | (with_reducible refine ev_not ?_) | (with_reducible refine ev_if ?_)
  | (with_reducible refine ev_I ?_) | (with_reducible refine ev_BI ?_) | (with_reducible refine ev_IC ?_) | (with_reducible refine ev_chainB ?_) | (with_reducible refine ev_un ?_)
  | (with_reducible refine ev_oixC (by with_unfolding_all rfl) (by with_unfolding_all rfl) (by with_unfolding_all rfl) ?_) | (with_reducible refine ev_ixL ?_) | (with_reducible refine ev_ixT ?_) | (with_reducible refine ev_isi ?_) | (with_reducible refine ev_isN ?_) | (with_reducible refine ev_notN ?_) | (with_reducible refine ev_isB ?_) | (with_reducible refine ev_notB ?_)
  | (with_reducible refine ev_eqG ?_) | (with_reducible refine ev_neG ?_) | (with_reducible refine ev_eqD ?_) | (with_reducible refine ev_neD ?_)
  | (with_reducible refine ev_slen (by with_unfolding_all rfl) ?_) | (with_reducible refine ev_olen (by with_unfolding_all rfl) ?_) | (with_reducible refine ev_len ?_) | (with_reducible refine ev_tup ?_) | (with_reducible refine ev_lst ?_) | (with_reducible refine ea_nil ?_) | (with_reducible refine ea_cons ?_) | (with_reducible refine ea_star ?_)
  | (with_reducible refine ev_call ?_) | (with_reducible refine em_call ?_) | (with_reducible refine em_var (by with_unfolding_all rfl) ?_) | (with_reducible refine ev_max2 ?_) | (with_reducible refine ev_min2 ?_) | (with_reducible refine ev_abs ?_)
  | (with_reducible refine ev_all ?_) | (with_reducible refine ev_any ?_) | (with_reducible refine ev_sum ?_) | (with_reducible refine ev_max ?_) | (with_reducible refine ev_min ?_) | (with_reducible refine ev_tupOf ?_)
  | (with_reducible refine ev_sortedI ?_) | (with_reducible refine ev_sortedP ?_) | (with_reducible refine ev_sortedD ?_) | (with_reducible refine ev_maxVals ?_) | (with_reducible refine ev_dget ?_) | (with_reducible refine ev_dget1 ?_) | (with_reducible refine ev_din ?_) | (with_reducible refine ev_dnotin ?_)
  | (with_reducible refine ev_slL ?_) | (with_reducible refine ev_slT ?_) | (with_reducible refine eo_none ?_) | (with_reducible refine eo_some ?_) | (with_reducible refine ev_cat ?_) | (with_reducible refine ev_ltT ?_) | (with_reducible refine ev_inI ?_)
  | (with_reducible refine ei_list ?_) | (with_reducible refine ei_tup ?_) | (with_reducible refine ei_rng1 ?_) | (with_reducible refine ei_rng2 ?_) | (with_reducible refine ei_zip ?_) | (with_reducible refine eg_name ?_) | (with_reducible refine eg_tup ?_) | (with_reducible refine egs_name ?_) | (with_reducible refine egs_nil ?_)
  | (with_reducible refine x_never ?_))
local macro_rules | `(tactic| walk_at "e") => `(tactic| first | walk_at "e1" | exact ⟨_, _, rfl, rfl, rfl⟩ | (refine ⟨_, _, rfl, rfl, ?_⟩) | (refine ⟨_, rfl, ?_⟩))
local macro_rules | `(tactic| walk_at "go") => `(tactic| repeat walk_at "e1")
/-- the web of n places in which x < y are tied as p tells -/
def Wb (n : Nat) (p : Nat → Nat → Bool) : Web := ⟨n, rowsT n fun x => (List.range n).filter fun y => decide (x < y) && p x y⟩
theorem mem_Wb {n : Nat} {p : Nat → Nat → Bool} {t : Nat × Nat} : t ∈ (Wb n p).ts ↔ t.1 < t.2 ∧ t.2 < n ∧ p t.1 t.2 = true := by
  unfold Wb
  simp only [mem_rowsT, List.mem_filter, List.mem_range, Bool.and_eq_true, decide_eq_true_eq]
  constructor
  · rintro ⟨h1, h2, h3, h4⟩; exact ⟨h3, h2, h4⟩
  · rintro ⟨h1, h2, h3⟩; exact ⟨by omega, h2, h1, h3⟩
theorem Wb_asc (n : Nat) (p : Nat → Nat → Bool) : (Wb n p).ts.Pairwise ltP := rowsT_asc fun x => (range_lt n).filter _
theorem Wb_ok {n : Nat} (p : Nat → Nat → Bool) (h1 : 1 ≤ n) (h2 : n ≤ 40) : (Wb n p).Ok := ⟨h1, h2, fun t ht => by have := mem_Wb.mp ht; exact ⟨this.1, this.2.1⟩, Wb_asc n p⟩
/-- a list of ties, none twice, of the same members -/
theorem perm_Wb {n : Nat} {p : Nat → Nat → Bool} {ts : List (Nat × Nat)} (nd : ts.Nodup) (h : ∀ t, t ∈ ts ↔ t.1 < t.2 ∧ t.2 < n ∧ p t.1 t.2 = true) : (Wb n p).ts.Perm ts :=
  (List.perm_ext_iff_of_nodup (asc_nodup (Wb_asc n p)) nd).mpr fun t => by rw [mem_Wb, h]
def ringW (n : Nat) : Web := Wb n fun x y => decide (y = x + 1) || (decide (x = 0) && decide (y + 1 = n))
def rowW (n : Nat) : Web := Wb n fun x y => decide (y = x + 1)
def fullW (n : Nat) : Web := Wb n fun _ _ => true
def sidesW (a b : Nat) : Web := Wb (a + b) fun x y => decide (x < a) && decide (a ≤ y)
def wheelW (n : Nat) : Web := Wb n fun x y => decide (y + 1 = n) || decide (y = x + 1) || (decide (x = 0) && decide (y + 2 = n))
def armedW (f : Nat) : Web := Wb (1 + 3 * f) fun x y => (decide (x = 0) && (decide (y = 1) || decide (y = 1 + f) || decide (y = 1 + 2 * f))) || (decide (1 ≤ x) && decide (y = x + 1) && decide (x ≠ f) && decide (x ≠ 2 * f))
theorem steps_mem {n : Nat} {t : Nat × Nat} : t ∈ (List.range n).map (fun x => (x, x + 1)) ↔ t.1 < n ∧ t.2 = t.1 + 1 := by
  simp only [List.mem_map, List.mem_range]
  constructor
  · rintro ⟨x, hx, rfl⟩; exact ⟨hx, rfl⟩
  · rintro ⟨h1, h2⟩; exact ⟨t.1, h1, Prod.ext rfl h2.symm⟩
theorem steps_asc (n : Nat) : ((List.range n).map fun x => (x, x + 1)).Pairwise ltP := List.pairwise_map.mpr ((range_lt n).imp fun h => .inl h)
theorem mk_web (n : Nat) (ts : List (Nat × Nat)) : webD ⟨n, ts⟩ = .tuple [.int (n : Int), .tuple (ts.map tD)] := rfl
def A_ring_web (ds : List PyData) (Φ : PyData → Prop) : Prop := ∃ n : Nat, ds = [nD n] ∧ 3 ≤ n ∧ n ≤ 40 ∧ Φ (webD (ringW n))
theorem ring_list {n : Nat} (h : 3 ≤ n) : (ringW n).ts.Perm ((List.range (n - 1)).map (fun x => (x, x + 1)) ++ [(0, n - 1)]) := by
  refine perm_Wb ?_ fun t => ?_
  · refine List.nodup_append.mpr ⟨asc_nodup (steps_asc _), by simp, ?_⟩
    intro a ha b hb e
    rw [List.mem_singleton.mp hb] at e
    have := steps_mem.mp ha
    rw [e] at this
    simp only at this; omega
  · rw [List.mem_append, steps_mem, List.mem_singleton]
    simp only [Bool.or_eq_true, Bool.and_eq_true, decide_eq_true_eq]
    constructor
    · rintro (⟨h1, h2⟩ | rfl)
      · exact ⟨by omega, by omega, .inl h2⟩
      · exact ⟨by simp only; omega, by simp only; omega, .inr ⟨rfl, by simp only; omega⟩⟩
    · rintro ⟨h1, h2, h3 | ⟨h3, h4⟩⟩
      · exact .inl ⟨by omega, h3⟩
      · exact .inr (Prod.ext h3 (by simp only; omega))
abbrev sp_ring_web : Sp := spD A_ring_web
def t_ring_web (K : PySem.W.Frag) : TS := (tSeq (tDrop (tCall sp_look_at_int [] E0 (tCons (tVar 0) (tCons (tC (.int 3)) (tCons (tC (.int 40)) tNil))))) (tRet (tTup (tCons (tVar 0) (tCons (tCB (rTupOf K) (tCons (tCB (rSortedPO K) (tCons (tOp rCat (tLc (iRng1 (tCons (tOp (rI0 fun i j => .int (i - j)) (tVar 0) (tC (.int 1))) tNil)) (gName 1) tYes (tTup (tCons (tVar 1) (tCons (tOp (rI0 fun i j => .int (i + j)) (tVar 1) (tC (.int 1))) tNil))) [1]) (tLst (tCons (tTup (tCons (tC (.int 0)) (tCons (tOp (rI0 fun i j => .int (i - j)) (tVar 0) (tC (.int 1))) tNil))) tNil))) tNil)) tNil)) tNil)))))
def N_ring_web : List Str := ["many", "at"]
theorem len_ring_web : ∀ vs H Q E, sp_ring_web vs H Q E → vs.length = (["many"] : List Str).length := lenD fun ds Φ h => by
  obtain ⟨n, rfl, h1, h2, h⟩ := h; rfl
theorem rd_ring_web {K : PySem.W.Frag} : ∀ vs H Q E, sp_ring_web vs H Q E → t_ring_web K { nx := fun _ H' => Q .non H', rt := Q } (L2.start N_ring_web vs) H := rd_D fun ds Φ h => by
  obtain ⟨n, rfl, h1, h2, h⟩ := h
  show Ex K _ _ [.d (nD n), .e]
  unfold t_ring_web
  walk_at "go"
  refine ⟨_, _, _, rfl, by omega, by omega, ?_⟩
  walk_at "go"
  refine ev_lcM nD (fun x => tD (x, x + 1)) (js := [1]) (by decide) ?_
  walk_at "go"
  refine ⟨_, _, rfl, rfl, ?_⟩
  walk_at "go"
  refine ⟨_, rfl, by omega, by omega, List.range (n - 1), ?_, by simp; omega, ?_, ?_⟩
  · rw [show ((n : Int) - 1).toNat = n - 1 by omega, rangeI_nat]
  · intro x hx
    walk_at "go"
    refine ⟨_, _, rfl, rfl, ?_⟩
    walk_at "go"
    exact ⟨by simp, rfl, rfl⟩
  · walk_at "go"
    refine ⟨_, _, rfl, rfl, ?_⟩
    walk_at "go"
    refine ⟨by simp, ?_⟩
    walk_at "go"
    refine ⟨by simp, _, _, rfl, rfl, by simp; omega, ?_⟩
    walk_at "go"
    refine ⟨((List.range (n - 1)).map (fun x => (x, x + 1)) ++ [(0, n - 1)]).map castP, ?_, fun qs pm sm => ?_⟩
    · rw [← map_tD, List.map_append, List.map_map]
      have : ((n : Int) - 1) = ((n - 1 : Nat) : Int) := by omega
      rw [this]
      rfl
    · walk_at "go"
      refine ⟨_, rfl, ?_⟩
      walk_at "go"
      refine ⟨by simp, ?_⟩
      rw [sort_ties pm sm (ring_list h1) (Wb_asc _ _), ← map_tD]
      exact h
def A_row_web (ds : List PyData) (Φ : PyData → Prop) : Prop := ∃ n : Nat, ds = [nD n] ∧ 1 ≤ n ∧ n ≤ 40 ∧ Φ (webD (rowW n))
theorem row_list {n : Nat} (h : 1 ≤ n) : (rowW n).ts = (List.range (n - 1)).map (fun x => (x, x + 1)) :=
  asc_unique (Wb_asc _ _) (steps_asc _) fun t => by
    unfold rowW
    rw [mem_Wb, steps_mem]
    simp only [decide_eq_true_eq]
    constructor
    · rintro ⟨h1, h2, h3⟩; exact ⟨by omega, h3⟩
    · rintro ⟨h1, h2⟩; exact ⟨by omega, by omega, h2⟩
abbrev sp_row_web : Sp := spD A_row_web
def t_row_web (K : PySem.W.Frag) : TS := (tSeq (tDrop (tCall sp_look_at_int [] E0 (tCons (tVar 0) (tCons (tC (.int 1)) (tCons (tC (.int 40)) tNil))))) (tRet (tTup (tCons (tVar 0) (tCons (tCB (rTupOf K) (tCons (tLc (iRng1 (tCons (tOp (rI0 fun i j => .int (i - j)) (tVar 0) (tC (.int 1))) tNil)) (gName 1) tYes (tTup (tCons (tVar 1) (tCons (tOp (rI0 fun i j => .int (i + j)) (tVar 1) (tC (.int 1))) tNil))) [1]) tNil)) tNil)))))
def N_row_web : List Str := ["many", "at"]
theorem len_row_web : ∀ vs H Q E, sp_row_web vs H Q E → vs.length = (["many"] : List Str).length := lenD fun ds Φ h => by
  obtain ⟨n, rfl, h1, h2, h⟩ := h; rfl
theorem rd_row_web {K : PySem.W.Frag} : ∀ vs H Q E, sp_row_web vs H Q E → t_row_web K { nx := fun _ H' => Q .non H', rt := Q } (L2.start N_row_web vs) H := rd_D fun ds Φ h => by
  obtain ⟨n, rfl, h1, h2, h⟩ := h
  show Ex K _ _ [.d (nD n), .e]
  unfold t_row_web
  walk_at "go"
  refine ⟨_, _, _, rfl, by omega, by omega, ?_⟩
  walk_at "go"
  refine ev_lcM nD (fun x => tD (x, x + 1)) (js := [1]) (by decide) ?_
  walk_at "go"
  refine ⟨_, _, rfl, rfl, ?_⟩
  walk_at "go"
  refine ⟨_, rfl, by omega, by omega, List.range (n - 1), ?_, by simp; omega, ?_, ?_⟩
  · rw [show ((n : Int) - 1).toNat = n - 1 by omega, rangeI_nat]
  · intro x hx
    walk_at "go"
    refine ⟨_, _, rfl, rfl, ?_⟩
    walk_at "go"
    exact ⟨by simp, rfl, rfl⟩
  · walk_at "go"
    refine ⟨_, rfl, ?_⟩
    walk_at "go"
    refine ⟨by simp, ?_⟩
    have e : webD (rowW n) = webD ⟨n, (List.range (n - 1)).map (fun x => (x, x + 1))⟩ := by rw [← row_list h1]; rfl
    rw [e, mk_web, List.map_map] at h
    exact h
theorem flat_tD {n : Nat} (L : Nat → List Nat) : ((List.range n).flatMap fun x => (L x).map fun y => tD (x, y)) = (rowsT n L).map tD := by
  unfold rowsT
  rw [List.map_flatMap]
  congr 1
  funext x
  rw [List.map_map]
  rfl
theorem rangeI_off (a k : Nat) : (rangeI (a : Int) k).map PyData.int = ((List.range k).map fun j => a + j).map nD := by
  unfold rangeI
  rw [List.map_map, List.map_map]
  refine List.map_congr_left fun x _ => ?_
  simp
def A_full_web (ds : List PyData) (Φ : PyData → Prop) : Prop := ∃ n : Nat, ds = [nD n] ∧ 1 ≤ n ∧ n ≤ 40 ∧ Φ (webD (fullW n))
theorem off_lt (a k : Nat) : ((List.range k).map fun j => a + j).Pairwise (· < ·) := List.pairwise_map.mpr ((range_lt k).imp fun h => by omega)
theorem mem_off {a k y : Nat} : y ∈ (List.range k).map (fun j => a + j) ↔ a ≤ y ∧ y < a + k := by
  simp only [List.mem_map, List.mem_range]
  constructor
  · rintro ⟨j, hj, rfl⟩; omega
  · rintro ⟨h1, h2⟩; exact ⟨y - a, by omega, by omega⟩
theorem full_list (n : Nat) : (fullW n).ts = rowsT n fun x => (List.range (n - (x + 1))).map fun j => x + 1 + j :=
  asc_unique (Wb_asc _ _) (rowsT_asc fun x => off_lt _ _) fun t => by
    unfold fullW
    rw [mem_Wb, mem_rowsT, mem_off]
    simp only
    constructor
    · rintro ⟨h1, h2, _⟩; omega
    · rintro ⟨h1, h2, h3⟩; exact ⟨by omega, by omega, trivial⟩
abbrev sp_full_web : Sp := spD A_full_web
def t_full_web (K : PySem.W.Frag) : TS := (tSeq (tDrop (tCall sp_look_at_int [] E0 (tCons (tVar 0) (tCons (tC (.int 1)) (tCons (tC (.int 40)) tNil))))) (tRet (tTup (tCons (tVar 0) (tCons (tCB (rTupOf K) (tCons (tLc2 (iRng1 (tCons (tVar 0) tNil)) (gName 1) tYes (iRng2 (tCons (tOp (rI0 fun i j => .int (i + j)) (tVar 1) (tC (.int 1))) (tCons (tVar 0) tNil))) (gName 2) tYes (tTup (tCons (tVar 1) (tCons (tVar 2) tNil))) [1, 2] [2]) tNil)) tNil)))))
def N_full_web : List Str := ["many", "one", "other"]
theorem len_full_web : ∀ vs H Q E, sp_full_web vs H Q E → vs.length = (["many"] : List Str).length := lenD fun ds Φ h => by
  obtain ⟨n, rfl, h1, h2, h⟩ := h; rfl
theorem rd_full_web {K : PySem.W.Frag} : ∀ vs H Q E, sp_full_web vs H Q E → t_full_web K { nx := fun _ H' => Q .non H', rt := Q } (L2.start N_full_web vs) H := rd_D fun ds Φ h => by
  obtain ⟨n, rfl, h1, h2, h⟩ := h
  show Ex K _ _ [.d (nD n), .e, .e]
  unfold t_full_web
  walk_at "go"
  refine ⟨_, _, _, rfl, by omega, by omega, ?_⟩
  walk_at "go"
  refine ev_lc2M nD nD (fun x => (List.range (n - (x + 1))).map fun j => x + 1 + j) (fun x y => tD (x, y)) (js := [1]) (js1 := [2]) (by decide) (by decide) (by decide) ?_
  walk_at "go"
  refine ⟨_, rfl, by omega, by omega, List.range n, ?_, ?_, ?_, ?_⟩
  · rw [Int.toNat_natCast, rangeI_nat]
  · rw [flat_tD, List.length_map]
    have := rowsT_len (n := n) (m := 40) (row := fun x => (List.range (n - (x + 1))).map fun j => x + 1 + j) fun x => by simp; omega
    have : n * 40 ≤ 40 * 40 := Nat.mul_le_mul_right 40 h2
    omega
  · intro x hx
    have hx := List.mem_range.mp hx
    walk_at "go"
    refine ⟨_, _, rfl, rfl, ?_⟩
    walk_at "go"
    refine ⟨_, _, rfl, by omega, by omega, ?_, rfl, ?_⟩
    · rw [show ((n : Int) - ((x : Int) + 1)).toNat = n - (x + 1) by omega, show ((x : Int) + 1) = ((x + 1 : Nat) : Int) by omega, rangeI_off]
    · intro y hy
      walk_at "go"
      exact ⟨by simp, rfl, rfl⟩
  · walk_at "go"
    refine ⟨_, rfl, ?_⟩
    walk_at "go"
    refine ⟨by simp, ?_⟩
    have e : webD (fullW n) = webD ⟨n, rowsT n fun x => (List.range (n - (x + 1))).map fun j => x + 1 + j⟩ := by rw [← full_list n]; rfl
    rw [e, mk_web] at h
    rw [flat_tD]
    exact h
def A_two_sided (ds : List PyData) (Φ : PyData → Prop) : Prop := ∃ a b : Nat, ds = [nD a, nD b] ∧ 1 ≤ a ∧ a ≤ 20 ∧ 1 ≤ b ∧ b ≤ 20 ∧ Φ (webD (sidesW a b))
theorem sides_list (a b : Nat) : (sidesW a b).ts = rowsT a fun x => (List.range b).map fun j => a + j :=
  asc_unique (Wb_asc _ _) (rowsT_asc fun x => off_lt _ _) fun t => by
    unfold sidesW
    rw [mem_Wb, mem_rowsT, mem_off]
    simp only [Bool.and_eq_true, decide_eq_true_eq]
    constructor
    · rintro ⟨h1, h2, h3, h4⟩; omega
    · rintro ⟨h1, h2, h3⟩; omega
theorem flat_tD2 {n a : Nat} (L : List Nat) : ((List.range n).flatMap fun x => L.map fun y => tD (x, a + y)) = (rowsT n fun _ => L.map fun j => a + j).map tD := by
  unfold rowsT
  rw [List.map_flatMap]
  congr 1
  funext x
  rw [List.map_map, List.map_map]
  rfl
abbrev sp_two_sided : Sp := spD A_two_sided
def t_two_sided (K : PySem.W.Frag) : TS := (tSeq (tDrop (tCall sp_look_at_int [] E0 (tCons (tVar 0) (tCons (tC (.int 1)) (tCons (tC (.int 20)) tNil))))) (tSeq (tDrop (tCall sp_look_at_int [] E0 (tCons (tVar 1) (tCons (tC (.int 1)) (tCons (tC (.int 20)) tNil))))) (tRet (tTup (tCons (tOp (rI0 fun i j => .int (i + j)) (tVar 0) (tVar 1)) (tCons (tCB (rTupOf K) (tCons (tLc2 (iRng1 (tCons (tVar 0) tNil)) (gName 2) tYes (iRng1 (tCons (tVar 1) tNil)) (gName 3) tYes (tTup (tCons (tVar 2) (tCons (tOp (rI0 fun i j => .int (i + j)) (tVar 0) (tVar 3)) tNil))) [2, 3] [3]) tNil)) tNil))))))
def N_two_sided : List Str := ["one", "other", "mine", "its"]
theorem len_two_sided : ∀ vs H Q E, sp_two_sided vs H Q E → vs.length = (["one", "other"] : List Str).length := lenD fun ds Φ h => by
  obtain ⟨a, b, rfl, h1, h2, h3, h4, h⟩ := h; rfl
theorem rd_two_sided {K : PySem.W.Frag} : ∀ vs H Q E, sp_two_sided vs H Q E → t_two_sided K { nx := fun _ H' => Q .non H', rt := Q } (L2.start N_two_sided vs) H := rd_D fun ds Φ h => by
  obtain ⟨a, b, rfl, h1, h2, h3, h4, h⟩ := h
  show Ex K _ _ [.d (nD a), .d (nD b), .e, .e]
  unfold t_two_sided
  walk_at "go"
  refine ⟨_, _, _, rfl, by omega, by omega, ?_⟩
  walk_at "go"
  refine ⟨_, _, _, rfl, by omega, by omega, ?_⟩
  walk_at "go"
  refine ⟨_, _, rfl, rfl, ?_⟩
  walk_at "go"
  refine ev_lc2M nD nD (fun x => List.range b) (fun x y => tD (x, a + y)) (js := [2]) (js1 := [3]) (by decide) (by decide) (by decide) ?_
  walk_at "go"
  refine ⟨_, rfl, by omega, by omega, List.range a, ?_, ?_, ?_, ?_⟩
  · rw [Int.toNat_natCast, rangeI_nat]
  · rw [flat_tD2, List.length_map]
    have := rowsT_len (n := a) (m := 20) (row := fun x => (List.range b).map fun j => a + j) fun x => by simp; omega
    have : a * 20 ≤ 20 * 20 := Nat.mul_le_mul_right 20 h2
    omega
  · intro x hx
    walk_at "go"
    refine ⟨_, rfl, by omega, by omega, ?_, rfl, ?_⟩
    · rw [Int.toNat_natCast, rangeI_nat]
    · intro y hy
      walk_at "go"
      refine ⟨_, _, rfl, rfl, ?_⟩
      walk_at "go"
      exact ⟨by simp, rfl, rfl⟩
  · walk_at "go"
    refine ⟨_, rfl, ?_⟩
    walk_at "go"
    refine ⟨by simp, ?_⟩
    have e : webD (sidesW a b) = webD ⟨a + b, rowsT a fun x => (List.range b).map fun j => a + j⟩ := by rw [← sides_list a b]; rfl
    rw [e, mk_web] at h
    rw [flat_tD2]
    exact h
def A_wheel (ds : List PyData) (Φ : PyData → Prop) : Prop := ∃ n : Nat, ds = [nD n] ∧ 4 ≤ n ∧ n ≤ 40 ∧ Φ (webD (wheelW n))
theorem wheel_list {n : Nat} (h : 4 ≤ n) : (wheelW n).ts.Perm ((ringW (n - 1)).ts ++ (List.range (n - 1)).map fun x => (x, n - 1)) := by
  refine perm_Wb ?_ fun t => ?_
  · refine List.nodup_append.mpr ⟨asc_nodup (Wb_asc _ _), List.pairwise_map.mpr ((range_lt _).imp fun {a b} hab e => by have := congrArg Prod.fst e; simp only at this; omega), ?_⟩
    intro a ha b hb e
    obtain ⟨x, hx, rfl⟩ := List.mem_map.mp hb
    have := mem_Wb.mp ha
    rw [e] at this
    simp only at this; omega
  · unfold ringW
    rw [List.mem_append, mem_Wb, List.mem_map]
    simp only [Bool.or_eq_true, Bool.and_eq_true, decide_eq_true_eq, List.mem_range]
    constructor
    · rintro (⟨h1, h2, h3⟩ | ⟨x, hx, rfl⟩)
      · exact ⟨h1, by omega, by omega⟩
      · exact ⟨by simp only; omega, by simp only; omega, by simp only; omega⟩
    · rintro ⟨h1, h2, h3⟩
      by_cases e : t.2 = n - 1
      · exact .inr ⟨t.1, by omega, Prod.ext rfl e.symm⟩
      · exact .inl ⟨h1, by omega, by omega⟩
abbrev sp_wheel : Sp := spD A_wheel
def t_wheel (K : PySem.W.Frag) : TS := (tSeq (tDrop (tCall sp_look_at_int [] E0 (tCons (tVar 0) (tCons (tC (.int 4)) (tCons (tC (.int 40)) tNil))))) (tSeq (tAsg (tCall sp_ring_web [] E0 (tCons (tOp (rI0 fun i j => .int (i - j)) (tVar 0) (tC (.int 1))) tNil)) (gName 1)) (tRet (tTup (tCons (tVar 0) (tCons (tCB (rTupOf K) (tCons (tCB (rSortedPO K) (tCons (tLst (StX.tStar K (tOp (rIxT K) (tVar 1) (tC (.int 1))) (StX.tStar K (tLc (iRng1 (tCons (tOp (rI0 fun i j => .int (i - j)) (tVar 0) (tC (.int 1))) tNil)) (gName 2) tYes (tTup (tCons (tVar 2) (tCons (tOp (rI0 fun i j => .int (i - j)) (tVar 0) (tC (.int 1))) tNil))) [2]) tNil))) tNil)) tNil)) tNil))))))
def N_wheel : List Str := ["many", "ring", "at"]
theorem len_wheel : ∀ vs H Q E, sp_wheel vs H Q E → vs.length = (["many"] : List Str).length := lenD fun ds Φ h => by
  obtain ⟨n, rfl, h1, h2, h⟩ := h; rfl
theorem rd_wheel {K : PySem.W.Frag} : ∀ vs H Q E, sp_wheel vs H Q E → t_wheel K { nx := fun _ H' => Q .non H', rt := Q } (L2.start N_wheel vs) H := rd_D fun ds Φ h => by
  obtain ⟨n, rfl, h1, h2, h⟩ := h
  show Ex K _ _ [.d (nD n), .e, .e]
  unfold t_wheel
  walk_at "go"
  refine ⟨_, _, _, rfl, by omega, by omega, ?_⟩
  walk_at "go"
  refine ⟨_, _, rfl, rfl, ?_⟩
  walk_at "go"
  have en : ((n : Int) - 1) = ((n - 1 : Nat) : Int) := by omega
  refine ⟨n - 1, by rw [en], by omega, by omega, ?_⟩
  have ok := Wb_ok (n := n - 1) (fun x y => decide (y = x + 1) || (decide (x = 0) && decide (y + 1 = n - 1))) (by omega) (by omega)
  walk_at "go"
  refine ⟨_, 1, _, rfl, rfl, rfl, _, rfl, ?_⟩
  refine ea_star ?_
  refine ev_lcM nD (fun x => tD (x, n - 1)) (js := [2]) (by decide) ?_
  walk_at "go"
  refine ⟨_, _, rfl, rfl, ?_⟩
  walk_at "go"
  refine ⟨_, rfl, by omega, by omega, List.range (n - 1), ?_, by simp; omega, ?_, ?_⟩
  · rw [show ((n : Int) - 1).toNat = n - 1 by omega, rangeI_nat]
  · intro x hx
    walk_at "go"
    refine ⟨_, _, rfl, rfl, ?_⟩
    walk_at "go"
    exact ⟨by simp, by rw [en]; rfl, rfl⟩
  · refine ⟨_, rfl, ?_⟩
    walk_at "go"
    have hlen := ok.len
    refine ⟨?_, ?_⟩
    · simp only [List.length_append, List.length_map, List.length_range, List.length_nil]
      have : (ringW (n - 1)).ts.length ≤ 1600 := hlen
      omega
    walk_at "go"
    refine ⟨((ringW (n - 1)).ts ++ (List.range (n - 1)).map fun x => (x, n - 1)).map castP, ?_, fun qs pm sm => ?_⟩
    · rw [← map_tD, List.map_append, List.map_map, List.append_nil]
      rfl
    · walk_at "go"
      refine ⟨_, rfl, ?_⟩
      walk_at "go"
      refine ⟨by simp, ?_⟩
      rw [sort_ties pm sm (wheel_list h1) (Wb_asc _ _), ← map_tD]
      exact h
end Lp


set_option Elab.async false
set_option linter.all false
set_option maxRecDepth 100000
set_option maxHeartbeats 4000000
/-! Lp: a law's draws, names, cells, pots. -/
namespace Lp
open PySem PySem.Spec L2
local macro_rules | `(tactic| walk_at "e1") => `(tactic| first
  | (with_reducible refine y_seq ?_) | (with_reducible refine ev_var (by with_unfolding_all rfl) ?_) | (with_reducible refine ev_int ?_) | (with_reducible refine ev_bl ?_) | (with_reducible refine ev_non ?_) | (with_reducible refine ev_str ?_)
  | (with_reducible refine y_ret ?_) | (with_reducible refine y_retN ?_) | (with_reducible refine y_next ?_) | (with_reducible refine x_if ?_) | (with_reducible refine y_setM (em_call ?_)) | (with_reducible refine y_set ?_) | (with_reducible refine y_drop ?_)
  | (with_reducible refine eb_test ?_) | (with_reducible refine eb_B ?_) | (with_reducible refine eb_not ?_) | (with_reducible refine eb_and ?_) | (with_reducible refine eb_or ?_) | (with_reducible refine eb_yes ?_)
  | (with_reducible refine ev_and ?_) | (with_reducible refine ev_or ?_) | (with_reducible refine ev_not ?_) | (with_reducible refine ev_if ?_)
  | (with_reducible refine ev_I ?_) | (with_reducible refine ev_BI ?_) | (with_reducible refine ev_IC ?_) | (with_reducible refine ev_chainB ?_) | (with_reducible refine ev_un ?_)
  | (with_reducible refine ev_oixC (by with_unfolding_all rfl) (by with_unfolding_all rfl) (by with_unfolding_all rfl) ?_) | (with_reducible refine ev_ixL ?_) | (with_reducible refine ev_ixT ?_) | (with_reducible refine ev_isi ?_) | (with_reducible refine ev_isN ?_) | (with_reducible refine ev_notN ?_) | (with_reducible refine ev_isB ?_) | (with_reducible refine ev_notB ?_)
  | (with_reducible refine ev_eqG ?_) | (with_reducible refine ev_neG ?_) | (with_reducible refine ev_eqD ?_) | (with_reducible refine ev_neD ?_)
  | (with_reducible refine ev_slen (by with_unfolding_all rfl) ?_) | (with_reducible refine ev_olen (by with_unfolding_all rfl) ?_) | (with_reducible refine ev_len ?_) | (with_reducible refine ev_tup ?_) | (with_reducible refine ev_lst ?_) | (with_reducible refine ea_nil ?_) | (with_reducible refine ea_cons ?_) | (with_reducible refine ea_star ?_)
  | (with_reducible refine ev_call ?_) | (with_reducible refine em_call ?_) | (with_reducible refine em_var (by with_unfolding_all rfl) ?_) | (with_reducible refine ev_max2 ?_) | (with_reducible refine ev_min2 ?_) | (with_reducible refine ev_abs ?_)
  | (with_reducible refine ev_all ?_) | (with_reducible refine ev_any ?_) | (with_reducible refine ev_sum ?_) | (with_reducible refine ev_max ?_) | (with_reducible refine ev_min ?_) | (with_reducible refine ev_tupOf ?_)
  | (with_reducible refine ev_sortedI ?_) | (with_reducible refine ev_sortedP ?_) | (with_reducible refine ev_sortedD ?_) | (with_reducible refine ev_maxVals ?_) | (with_reducible refine ev_dget ?_) | (with_reducible refine ev_dget1 ?_) | (with_reducible refine ev_din ?_) | (with_reducible refine ev_dnotin ?_)
  | (with_reducible refine ev_slL ?_) | (with_reducible refine ev_slT ?_) | (with_reducible refine eo_none ?_) | (with_reducible refine eo_some ?_) | (with_reducible refine ev_cat ?_) | (with_reducible refine ev_ltT ?_) | (with_reducible refine ev_inI ?_)
  | (with_reducible refine ei_list ?_) | (with_reducible refine ei_tup ?_) | (with_reducible refine ei_rng1 ?_) | (with_reducible refine ei_rng2 ?_) | (with_reducible refine ei_zip ?_) | (with_reducible refine eg_name ?_) | (with_reducible refine eg_tup ?_) | (with_reducible refine egs_name ?_) | (with_reducible refine egs_nil ?_)
  | (with_reducible refine x_never ?_))
local macro_rules | `(tactic| walk_at "e") => `(tactic| first | walk_at "e1" | exact ⟨_, _, rfl, rfl, rfl⟩ | (refine ⟨_, _, rfl, rfl, ?_⟩) | (refine ⟨_, rfl, ?_⟩))
local macro_rules | `(tactic| walk_at "go") => `(tactic| repeat walk_at "e1")
theorem bits_le {i : Int} {k : Nat} (h : i.natAbs < 2 ^ k) : Builtin.Int.intBits i ≤ k := by
  unfold Builtin.Int.intBits
  by_cases e : i = 0
  · subst e; simp
  · have h1 : (i == 0) = false := by simpa using e
    rw [h1]
    have h2 : i.natAbs ≠ 0 := by omega
    have := (Nat.log2_lt h2).mpr h
    simp only [Bool.false_eq_true, ↓reduceIte]
    omega
def A__law_take (ds : List PyData) (c : Nat) (Φ : PyData → Nat → Prop) : Prop := ∃ u : Nat, ds = [nD u] ∧ 1 ≤ u ∧ u ≤ 1000000 ∧ c ≤ 1000000 ∧ ∀ r : Nat, r < u → Φ (nD r) (c + 1)
theorem mod_nat {i : Int} {u : Nat} (h : 1 ≤ u) : ∃ r : Nat, r < u ∧ i % (u : Int) = (r : Int) := by
  have h1 := Int.emod_nonneg i (show (u : Int) ≠ 0 by omega)
  have h2 := Int.emod_lt_of_pos i (show (0 : Int) < u by omega)
  exact ⟨(i % (u : Int)).toNat, by omega, by omega⟩
abbrev sp__law_take : Sp := spP A__law_take
def t__law_take (K : PySem.W.Frag) : TS := (tSeq (tIfS (tTest (tOp (rI0 fun i j => .bl (decide (j < i))) (tOp (rIxL K) (tVar 0) (tC (.int 0))) (tC (.int 0)))) (tSeq (tAsg (tOp (rI (fun _ j => 0 < j) fun i j => .int (i % j)) (tCB rInt1 (tCons (tOp (rIxL K) (tVar 0) (tC (.int 0))) tNil)) (tVar 1)) (gName 2)) (tSeq (tAsg (tOp (rI CDiv fun i j => .int (i / j)) (tOp (rIxL K) (tVar 0) (tC (.int 0))) (tVar 1)) (gSub (tVar 0) (tC (.int 0)) rSetL)) (tRet (tVar 2)))) tNext) (tSeq (tAsg (tOp (rI0 fun i j => .int (i + j)) (tOp (rIxL K) (tVar 0) (tC (.int 2))) (tC (.int 1))) (gSub (tVar 0) (tC (.int 2)) rSetL)) (tSeq (tAsg (tOp (rIxL K) (tLst (tCons (tC (.int 2147483647)) (tCons (tC (.int 2147483629)) (tCons (tC (.int 2147483587)) (tCons (tC (.int 2147483579)) (tCons (tC (.int 2147483563)) tNil)))))) (tOp (rI (fun _ j => 0 < j) fun i j => .int (i % j)) (tCB rInt1 (tCons (tOp (rIxL K) (tVar 0) (tC (.int 2))) tNil)) (tC (.int 5)))) (gName 3)) (tSeq (tAsg (tOp (rI (fun _ j => 0 < j) fun i j => .int (i % j)) (tCB rInt1 (tCons (tOp (rI CPowB fun i j => .int (i ^ j.toNat)) (tCB rInt1 (tCons (tOp (rI0 fun i j => .int (i + j)) (tOp (rI0 fun i j => .int (i + j)) (tOp (rIxL K) (tVar 0) (tC (.int 1))) (tOp (rI CMul fun i j => .int (i * j)) (tOp (rI CMul fun i j => .int (i * j)) (tC (.int 90011)) (tOp (rIxL K) (tVar 0) (tC (.int 2)))) (tOp (rIxL K) (tVar 0) (tC (.int 2))))) (tC (.int 3019))) tNil)) (tC (.int 3))) tNil)) (tVar 3)) (gName 4)) (tSeq (tAsg (tOp (rI (fun _ j => 0 < j) fun i j => .int (i % j)) (tCB rInt1 (tCons (tOp (rI CMul fun i j => .int (i * j)) (tVar 4) (tOp (rI0 fun i j => .int (i + j)) (tOp (rI (fun _ j => 0 < j) fun i j => .int (i % j)) (tCB rInt1 (tCons (tVar 4) tNil)) (tC (.int 13751))) (tOp (rI CMul fun i j => .int (i * j)) (tC (.int 439)) (tOp (rIxL K) (tVar 0) (tC (.int 2)))))) tNil)) (tC (.int 2305843009213693907))) (gName 4)) (tRet (tOp (rI (fun _ j => 0 < j) fun i j => .int (i % j)) (tCB rInt1 (tCons (tOp (rI CDiv fun i j => .int (i / j)) (tVar 4) (tC (.int 241))) tNil)) (tVar 1))))))))
def N__law_take : List Str := ["pot", "upto", "digit", "prime", "mixture"]
theorem len__law_take : ∀ vs H Q E, sp__law_take vs H Q E → vs.length = (["pot", "upto"] : List Str).length := lenP fun ds c Φ h => by
  obtain ⟨u, rfl, hu, hu2, hc, h⟩ := h; rfl
theorem rd__law_take {K : PySem.W.Frag} : ∀ vs H Q E, sp__law_take vs H Q E → t__law_take K { nx := fun _ H' => Q .non H', rt := Q } (L2.start N__law_take vs) H := rd_P fun p ds c Φ h => by
  obtain ⟨u, rfl, hu, hu2, hc, h⟩ := h
  show Ex K _ _ [.o p (.pot c), .d (nD u), .e, .e, .e]
  unfold t__law_take
  refine x_open (j := 0) rfl fun o m n hP => ?_
  obtain ⟨p1, p2, p3, p4, p5, p6⟩ := hP
  refine y_seq (x_if (eb_test (ev_BI ?_)))
  refine ev_oixC rfl rfl rfl (ev_int ⟨_, _, rfl, rfl, _, rfl, fun hb => ?_, fun hb => ?_⟩)
  · have hb : (0 : Int) < o := of_decide_eq_true hb
    refine y_seq (y_set (ev_IC (ev_int1 (ea_cons (ev_oixC rfl rfl rfl (ea_nil ⟨_, rfl, ?_⟩))))))
    walk_at "go"
    refine ⟨_, _, rfl, rfl, by omega, ?_⟩
    obtain ⟨r, hr, er⟩ := mod_nat (i := o) hu
    refine y_seq (y_seti ?_)
    refine ev_IC (ev_oixC rfl rfl rfl ?_)
    walk_at "go"
    refine ⟨_, _, rfl, rfl, ⟨by omega, by omega⟩, ?_⟩
    walk_at "go"
    refine ⟨_, 0, rfl, rfl, by simp, ?_⟩
    refine x_close (j := 0) (c := c + 1) rfl ⟨?_, ?_, p3, p4, p5, by omega⟩ ?_
    · exact Int.ediv_nonneg p1 (by omega)
    · refine Int.lt_of_le_of_lt (Int.ediv_le_self _ p1) p2
    walk_at "go"
    refine ⟨c + 1, rfl, ?_⟩
    rw [er]
    exact h r hr
  · refine y_next ?_
    refine y_seq (y_seti (j := 0) ?_)
    refine ev_I (ev_oixC rfl rfl rfl ?_)
    walk_at "go"
    refine ⟨_, _, rfl, rfl, ?_⟩
    walk_at "go"
    refine ⟨_, 2, rfl, rfl, by simp, ?_⟩
    show Ex K _ _ [.o p (.lst [.int o, .int m, .int (n + 1)]), .d (nD u), .e, .e, .e]
    have q1 : n + 1 ≤ 1000001 := by omega
    refine y_seq (y_set ?_)
    walk_at "go"
    refine ⟨by simp, ?_⟩
    refine ev_IC (ev_int1 (ea_cons (ev_oixC rfl rfl rfl (ea_nil ⟨_, rfl, ?_⟩))))
    walk_at "go"
    refine ⟨_, _, rfl, rfl, by omega, ?_⟩
    obtain ⟨pr, hpr, hp1, hp2⟩ : ∃ pr : Int, atI [PyData.int 2147483647, .int 2147483629, .int 2147483587, .int 2147483579, .int 2147483563] ((n + 1) % 5) = some (.int pr) ∧ 0 < pr ∧ pr ≤ 2147483647 := by
      have h1 := Int.emod_nonneg (n + 1) (show (5 : Int) ≠ 0 by decide)
      have h2 := Int.emod_lt_of_pos (n + 1) (show (0 : Int) < 5 by decide)
      generalize (n + 1) % 5 = z at h1 h2
      have : z = 0 ∨ z = 1 ∨ z = 2 ∨ z = 3 ∨ z = 4 := by omega
      rcases this with rfl | rfl | rfl | rfl | rfl
      · exact ⟨_, rfl, by decide, by decide⟩
      · exact ⟨_, rfl, by decide, by decide⟩
      · exact ⟨_, rfl, by decide, by decide⟩
      · exact ⟨_, rfl, by decide, by decide⟩
      · exact ⟨_, rfl, by decide, by decide⟩
    refine ⟨_, _, _, rfl, rfl, hpr, ?_⟩
    refine y_seq (y_set ?_)
    refine ev_IC (ev_int1 (ea_cons (ev_IC (ev_int1 (ea_cons (ev_I (ev_I (ev_oixC rfl rfl rfl (ev_IC (ev_IC (ev_int (ev_oixC rfl rfl rfl ⟨_, _, rfl, rfl, ?_, ?_⟩))))))))))))
    · exact .inl ⟨by decide, by decide⟩
    refine ev_oixC rfl rfl rfl ⟨_, _, rfl, rfl, ?_, ?_⟩
    · refine .inl ⟨by omega, by omega⟩
    refine ⟨_, _, rfl, rfl, ?_⟩
    walk_at "go"
    refine ⟨_, _, rfl, rfl, ?_⟩
    walk_at "go"
    refine ⟨_, rfl, ?_⟩
    walk_at "go"
    have hsq : 0 ≤ 90011 * (n + 1) * (n + 1) ∧ 90011 * (n + 1) * (n + 1) ≤ 90011 * 1000001 * 1000001 := by
      have a0 : 0 ≤ 90011 * (n + 1) := by omega
      have a1 : 90011 * (n + 1) ≤ 90011 * 1000001 := by omega
      exact ⟨Int.mul_nonneg a0 (by omega), Int.mul_le_mul a1 q1 (by omega) (by decide)⟩
    refine ⟨_, _, rfl, rfl, ⟨by decide, ?_⟩, ?_⟩
    · generalize hg : 90011 * (n + 1) * (n + 1) = g at hsq ⊢
      have : Builtin.Int.intBits (m + g + 3019) ≤ 80 := bits_le (by omega)
      omega
    walk_at "go"
    refine ⟨_, rfl, ?_⟩
    walk_at "go"
    refine ⟨_, _, rfl, rfl, hp1, ?_⟩
    generalize (m + 90011 * (n + 1) * (n + 1) + 3019) ^ (3 : Int).toNat = big
    have b1 := Int.emod_nonneg big (show pr ≠ 0 by omega)
    have b2 := Int.emod_lt_of_pos big hp1
    generalize big % pr = x at b1 b2
    refine y_seq (y_set ?_)
    refine ev_IC (ev_int1 (ea_cons (ev_IC ?_)))
    walk_at "go"
    refine ev_int1 ?_
    walk_at "go"
    refine ⟨_, rfl, ?_⟩
    walk_at "go"
    refine ⟨_, _, rfl, rfl, by decide, ?_⟩
    refine ev_IC (ev_int (ev_oixC rfl rfl rfl ⟨_, _, rfl, rfl, ?_, ?_⟩))
    · exact .inl ⟨by decide, by decide⟩
    refine ⟨_, _, rfl, rfl, _, _, rfl, rfl, .inl ⟨by omega, by omega⟩, ?_⟩
    walk_at "go"
    refine ⟨_, rfl, ?_⟩
    walk_at "go"
    refine ⟨_, _, rfl, rfl, by decide, ?_⟩
    refine x_close (j := 0) (c := c + 1) rfl ⟨p1, p2, p3, p4, by omega, by omega⟩ ?_
    walk_at "go"
    refine ev_int1 ?_
    walk_at "go"
    refine ⟨_, _, rfl, rfl, ⟨by decide, by decide⟩, ?_⟩
    walk_at "go"
    refine ⟨_, rfl, ?_⟩
    walk_at "go"
    refine ⟨_, _, rfl, rfl, by omega, ?_⟩
    refine ⟨c + 1, rfl, ?_⟩
    generalize (x * (x % 13751 + 439 * (n + 1))) % 2305843009213693907 / 241 = y
    obtain ⟨r, hr, er⟩ := mod_nat (i := y) hu
    rw [er]
    exact h r hr
theorem perm_map {α β : Type} {g : α → β} {xs : List α} {zs : List β} (p : zs.Perm (xs.map g)) : ∃ ys : List α, ys.Perm xs ∧ zs = ys.map g := by
  generalize e : xs.map g = ws at p
  induction p generalizing xs with
  | nil =>
    have : xs = [] := List.map_eq_nil_iff.mp e
    exact ⟨[], by rw [this], rfl⟩
  | @cons b l1 l2 p ih =>
    cases xs with
    | nil => cases e
    | cons x xs =>
      rw [List.map_cons] at e
      injection e with e1 e2
      obtain ⟨ys, h1, h2⟩ := ih e2
      exact ⟨x :: ys, .cons _ h1, by rw [List.map_cons, e1, h2]⟩
  | swap b1 b2 l =>
    match xs, e with
    | x :: y :: xs, e =>
      simp only [List.map_cons, List.cons.injEq] at e
      obtain ⟨e1, e2, e3⟩ := e
      exact ⟨y :: x :: xs, .swap _ _ _, by simp [e1, e2, e3]⟩
  | trans p1 p2 ih1 ih2 =>
    obtain ⟨ys, h1, h2⟩ := ih2 e
    obtain ⟨zs, h3, h4⟩ := ih1 h2.symm
    exact ⟨zs, h3.trans h1, h4⟩
theorem erase_perm {α : Type} {xs : List α} {i : Nat} {x : α} (h : xs[i]? = some x) : (x :: xs.eraseIdx i).Perm xs := by
  induction xs generalizing i with
  | nil => simp at h
  | cons y xs ih =>
    cases i with
    | zero => simp at h; subst h; exact List.Perm.refl _
    | succ i =>
      have := ih (i := i) (by simpa using h)
      rw [List.eraseIdx_cons_succ]
      exact (List.Perm.swap _ _ _).trans (this.cons y)
def A__law_some (ds : List PyData) (c : Nat) (Φ : PyData → Nat → Prop) : Prop := ∃ (pool : List PyData) (m : Nat), ds = [.list pool, nD m] ∧ m ≤ pool.length ∧ pool.length ≤ 1000 ∧ c + m ≤ 1000000 ∧ ∀ found rest : List PyData, (found ++ rest).Perm pool → found.length = m → Φ (.list found) (c + m)
abbrev sp__law_some : Sp := spP A__law_some
def t__law_some (K : PySem.W.Frag) : TS := (tSeq (tPar 3 4 (tCons (tCB (rLstOf K) (tCons (tVar 1) tNil)) (tCons (tLst tNil) tNil))) (tSeq (tFor (iRng1 (tCons (tVar 2) tNil)) (gName 5) (tDrop (tBM K "list" rAppend (tVar 4) (tCons (tBM K "list" rPopAt (tVar 3) (tCons (tCall sp__law_take [] E0 (tCons (tVar 0) (tCons (tCB (rLenS K) (tCons (tVar 3) tNil)) tNil))) tNil)) tNil)))) (tRet (tVar 4))))
def N__law_some : List Str := ["pot", "pool", "many", "rests", "found", "lap"]
theorem len__law_some : ∀ vs H Q E, sp__law_some vs H Q E → vs.length = (["pot", "pool", "many"] : List Str).length := lenP fun ds c Φ h => by
  obtain ⟨pool, m, rfl, hm, hl, hc, h⟩ := h; rfl
theorem rd__law_some {K : PySem.W.Frag} : ∀ vs H Q E, sp__law_some vs H Q E → t__law_some K { nx := fun _ H' => Q .non H', rt := Q } (L2.start N__law_some vs) H := rd_P fun p ds c Φ h => by
  obtain ⟨pool, m, rfl, hm, hl, hc, h⟩ := h
  show Ex K _ _ [.o p (.pot c), .d (.list pool), .d (nD m), .e, .e, .e]
  unfold t__law_some
  refine y_seq (y_parNN (by decide) (en_lstOf ?_))
  walk_at "go"
  refine ⟨_, _, rfl, rfl, en_lst ?_⟩
  walk_at "go"
  refine ⟨by simp, fun a b => ?_⟩
  refine y_seq (y_for (js := [5]) ?_)
  walk_at "go"
  refine ⟨_, rfl, by omega, by omega, fun i as' => ∃ rest found s5, as' = [.o p (.pot (c + i)), .d (.list pool), .d (nD m), .o a (.lst rest), .o b (.lst found), s5] ∧ (found ++ rest).Perm pool ∧ found.length = i, ⟨pool, [], .e, rfl, List.Perm.refl _, rfl⟩, ?_, ?_⟩
  · rintro i x as' hx ⟨rest, found, s5, rfl, hp, hf⟩
    rw [Int.toNat_natCast, rangeI_nat] at hx
    obtain ⟨hi, rfl⟩ := range_at hx
    have hpl := hp.length_eq
    rw [List.length_append] at hpl
    refine eg_name (y_app rfl (ev_popAt rfl (ev_callP rfl (ea_cons (ev_olen rfl (ea_nil ⟨c + i, rfl, rest.length, rfl, by omega, by omega, by omega, fun r hr => ?_⟩))))))
    have hr' := List.getElem?_eq_getElem hr
    refine ⟨rest, r, rest[r], rfl, rfl, hr', by omega, found, rfl, by omega, rest.eraseIdx r, found ++ [rest[r]], .d (nD i), rfl, ?_, by simp [hf]⟩
    rw [List.append_assoc]
    exact (List.Perm.append_left found (erase_perm hr')).trans hp
  · rintro as' ⟨rest, found, s5, rfl, hp, hf⟩
    rw [Int.toNat_natCast, List.length_map, rangeI_len] at hf ⊢
    refine x_freeze (j := 4) rfl ?_
    walk_at "go"
    exact ⟨c + m, rfl, h found rest hp hf⟩
def A__law_names (ds : List PyData) (c : Nat) (Φ : PyData → Nat → Prop) : Prop := ∃ n : Nat, ds = [nD n] ∧ n ≤ 1000 ∧ c + n ≤ 1000000 ∧ ∀ f : List Nat, Nm n f → Φ (.tuple (f.map nD)) (c + n)
abbrev sp__law_names : Sp := spP A__law_names
def t__law_names (K : PySem.W.Frag) : TS := (tRet (tCB (rTupOf K) (tCons (tLc (iList K (tCall sp__law_some [] E0 (tCons (tVar 0) (tCons (tLstRg (tRg1 (tVar 1))) (tCons (tVar 1) tNil))))) (gName 2) tYes (tCB rInt1 (tCons (tVar 2) tNil)) [2]) tNil)))
def N__law_names : List Str := ["pot", "many", "name"]
theorem len__law_names : ∀ vs H Q E, sp__law_names vs H Q E → vs.length = (["pot", "many"] : List Str).length := lenP fun ds c Φ h => by
  obtain ⟨n, rfl, hn, hc, h⟩ := h; rfl
theorem rd__law_names {K : PySem.W.Frag} : ∀ vs H Q E, sp__law_names vs H Q E → t__law_names K { nx := fun _ H' => Q .non H', rt := Q } (L2.start N__law_names vs) H := rd_P fun p ds c Φ h => by
  obtain ⟨n, rfl, hn, hc, h⟩ := h
  show Ex K _ _ [.o p (.pot c), .d (nD n), .e]
  unfold t__law_names
  refine y_ret (ev_tupOf (ea_cons ?_))
  refine ev_lcM (fun x : PyData => x) (fun x => x) (js := [2]) (by decide) ?_
  refine ei_list (ev_callP rfl (ea_cons (ev_new (en_lstRg1 ?_))))
  walk_at "go"
  refine ⟨_, rfl, by omega, by omega, _, rfl, ?_⟩
  walk_at "go"
  refine ⟨c, rfl, _, n, rfl, ?_, ?_, hc, ?_⟩
  · rw [Int.toNat_natCast, List.length_map, rangeI_len]; omega
  · rw [Int.toNat_natCast, List.length_map, rangeI_len]; omega
  rw [Int.toNat_natCast, rangeI_nat]
  intro found rest hp hf
  have hpl := hp.length_eq
  rw [List.length_append, List.length_map, List.length_range] at hpl
  have hr : rest = [] := List.length_eq_zero_iff.mp (by omega)
  subst hr
  rw [List.append_nil] at hp
  obtain ⟨f, pf, rfl⟩ := perm_map hp
  refine ⟨_, rfl, f.map nD, by simp, by omega, ?_, ?_⟩
  · intro x hx
    obtain ⟨y, hy, rfl⟩ := List.mem_map.mp hx
    refine eg_name (ev_int1 ?_)
    walk_at "go"
    exact ⟨_, rfl, rfl, rfl⟩
  · walk_at "go"
    refine ⟨_, rfl, c + n, rfl, ?_⟩
    rw [show (f.map nD).map (fun x => x) = f.map nD by simp]
    refine h f ⟨by rw [pf.length_eq, List.length_range], pf.symm.nodup List.nodup_range, fun y hy => List.mem_range.mp (pf.subset hy)⟩
def A__law_cells (ns : List Int) (ds : List PyData) (Φ : PyData → Prop) : Prop := ∃ m : Nat, ds = [nD m] ∧ m ≤ 100 ∧ Φ (.list ((List.range (max 1 (min m ns.length))).map nD))
abbrev sp__law_cells (K : PySem.W.Frag) : Sp := spS K A__law_cells
def t__law_cells (K : PySem.W.Frag) : TS := (tRet (tLstRg (tRg1 (tCB rMax2 (tCons (tC (.int 1)) (tCons (tCB rMin2 (tCons (tVar 1) (tCons (tCB (rLenS K) (tCons (tVar 0) tNil)) tNil))) tNil))))))
def N__law_cells : List Str := ["script", "most"]
theorem len__law_cells {K : PySem.W.Frag} : ∀ vs H Q E, (sp__law_cells K) vs H Q E → vs.length = (["script", "most"] : List Str).length := lenS fun ns ds Φ h => by
  obtain ⟨m, rfl, hm, h⟩ := h; rfl
theorem rd__law_cells {K : PySem.W.Frag} : ∀ vs H Q E, (sp__law_cells K) vs H Q E → t__law_cells K { nx := fun _ H' => Q .non H', rt := Q } (L2.start N__law_cells vs) H := rd_S fun ns ds Φ h => by
  obtain ⟨m, rfl, hm, h⟩ := h
  show Ex K _ _ [.s ns, .d (nD m)]
  unfold t__law_cells
  refine y_ret (ev_new (en_lstRg1 ?_))
  walk_at "go"
  refine ⟨_, _, rfl, ?_⟩
  walk_at "go"
  refine ⟨_, _, rfl, _, rfl, by omega, by omega, _, rfl, ?_⟩
  rw [show (max (1 : Int) (min (m : Int) (ns.length : Int))).toNat = max 1 (min m ns.length) by omega, rangeI_nat]
  exact h
def A__law_pot (ns : List Int) (ds : List PyData) (Φ : OD → Prop) : Prop := ∃ x : Nat, ds = [nD x] ∧ x ≤ 100 ∧ Φ (.pot 0)
abbrev sp__law_pot (K : PySem.W.Frag) : Sp := spSN K A__law_pot
def t__law_pot (K : PySem.W.Frag) : TS := (tSeq (tAsg (tIf (tTest (tOp (rI0 fun i j => .bl (decide (i < j))) (tVar 1) (tCB (rLenS K) (tCons (tVar 0) tNil)))) (tOp (rIxL K) (tVar 0) (tVar 1)) (tOp (rI0 fun i j => .int (i + j)) (tOp (rI0 fun i j => .int (i + j)) (tOp (rI (fun _ j => 0 < j) fun i j => .int (i % j)) (tCB rInt1 (tCons (tCB (rSum K) (tCons (tSl (rSlL K) (tVar 0) tNoPart (tPart (tC (.int 1)))) tNil)) tNil)) (tC (.int 1000651))) (tOp (rI CMul fun i j => .int (i * j)) (tC (.int 5227)) (tVar 1))) (tC (.int 3259)))) (gName 2)) (tSeq (tAsg (tOp (rI CMul fun i j => .int (i * j)) (tOp (rI (fun _ j => 0 < j) fun i j => .int (i % j)) (tCB rInt1 (tCons (tCB rAbs (tCons (tVar 2) tNil)) tNil)) (tOp (rI CPowB fun i j => .int (i ^ j.toNat)) (tOp (rI CPowB fun i j => .int (i ^ j.toNat)) (tC (.int 10)) (tC (.int 60))) (tC (.int 5)))) (tCB rInt1 (tCons (tOp (rI0 fun i j => .bl (decide (j ≤ i))) (tCB rAbs (tCons (tVar 2) tNil)) (tOp (rI CPowB fun i j => .int (i ^ j.toNat)) (tC (.int 10)) (tC (.int 18)))) tNil))) (gName 3)) (tSeq (tAsg (tOp (rI (fun _ j => 0 < j) fun i j => .int (i % j)) (tCB rInt1 (tCons (tVar 2) tNil)) (tC (.int 2305843009213693921))) (gName 4)) (tRet (tLst (tCons (tVar 3) (tCons (tOp (rI (fun _ j => 0 < j) fun i j => .int (i % j)) (tCB rInt1 (tCons (tOp (rI0 fun i j => .int (i + j)) (tOp (rI0 fun i j => .int (i + j)) (tOp (rI CMul fun i j => .int (i * j)) (tVar 4) (tC (.int 70249))) (tOp (rI CMul fun i j => .int (i * j)) (tOp (rI CMul fun i j => .int (i * j)) (tC (.int 13103)) (tVar 1)) (tVar 1))) (tC (.int 2963))) tNil)) (tC (.int 2305843009213693921))) (tCons (tC (.int 0)) tNil))))))))
def N__law_pot : List Str := ["script", "place", "cell", "own", "small"]
theorem len__law_pot {K : PySem.W.Frag} : ∀ vs H Q E, (sp__law_pot K) vs H Q E → vs.length = (["script", "place"] : List Str).length := lenSN fun ns ds Φ h => by
  obtain ⟨x, rfl, hx, h⟩ := h; rfl
theorem rd__law_pot {K : PySem.W.Frag} : ∀ vs H Q E, (sp__law_pot K) vs H Q E → t__law_pot K { nx := fun _ H' => Q .non H', rt := Q } (L2.start N__law_pot vs) H := rd_SN fun ns ds Φ h => by
  obtain ⟨x, rfl, hx, h⟩ := h
  show Ex K _ _ [.s ns, .d (nD x), .e, .e, .e]
  unfold t__law_pot
  have fin : ∀ cell : Int, Ex K (tSeq (tAsg (tOp (rI CMul fun i j => .int (i * j)) (tOp (rI (fun _ j => 0 < j) fun i j => .int (i % j)) (tCB rInt1 (tCons (tCB rAbs (tCons (tVar 2) tNil)) tNil)) (tOp (rI CPowB fun i j => .int (i ^ j.toNat)) (tOp (rI CPowB fun i j => .int (i ^ j.toNat)) (tC (.int 10)) (tC (.int 60))) (tC (.int 5)))) (tCB rInt1 (tCons (tOp (rI0 fun i j => .bl (decide (j ≤ i))) (tCB rAbs (tCons (tVar 2) tNil)) (tOp (rI CPowB fun i j => .int (i ^ j.toNat)) (tC (.int 10)) (tC (.int 18)))) tNil))) (gName 3)) (tSeq (tAsg (tOp (rI (fun _ j => 0 < j) fun i j => .int (i % j)) (tCB rInt1 (tCons (tVar 2) tNil)) (tC (.int 2305843009213693921))) (gName 4)) (tRet (tLst (tCons (tVar 3) (tCons (tOp (rI (fun _ j => 0 < j) fun i j => .int (i % j)) (tCB rInt1 (tCons (tOp (rI0 fun i j => .int (i + j)) (tOp (rI0 fun i j => .int (i + j)) (tOp (rI CMul fun i j => .int (i * j)) (tVar 4) (tC (.int 70249))) (tOp (rI CMul fun i j => .int (i * j)) (tOp (rI CMul fun i j => .int (i * j)) (tC (.int 13103)) (tVar 1)) (tVar 1))) (tC (.int 2963))) tNil)) (tC (.int 2305843009213693921))) (tCons (tC (.int 0)) tNil)))))))
      { nx := fun _ => False, rt := fun _ _ => False, rn := fun u _ => Φ u } [.s ns, .d (nD x), .d (.int cell), .e, .e] := by
    intro cell
    refine y_seq (y_set ?_)
    refine ev_IC (ev_IC (ev_int1 ?_))
    walk_at "go"
    refine ⟨_, rfl, ?_⟩
    walk_at "go"
    refine ⟨_, rfl, ?_⟩
    walk_at "go"
    refine ⟨_, _, rfl, rfl, by unfold CPowB; decide +kernel, ?_⟩
    walk_at "go"
    refine ⟨_, _, rfl, rfl, by unfold CPowB; decide +kernel, ?_⟩
    have e300 : (((10 : Int) ^ (60 : Int).toNat) ^ (5 : Int).toNat) = 10 ^ 300 := by decide +kernel
    rw [e300]
    have p300 : (0 : Int) < 10 ^ 300 := by decide +kernel
    refine ⟨_, _, rfl, rfl, p300, ?_⟩
    refine ev_intB ?_
    walk_at "go"
    refine ⟨_, rfl, ?_⟩
    walk_at "go"
    refine ⟨_, _, rfl, rfl, by unfold CPowB; decide +kernel, ?_⟩
    refine ⟨_, _, rfl, rfl, ?_⟩
    walk_at "go"
    refine ⟨_, rfl, ?_⟩
    generalize (if cell < 0 then -cell else cell) = ab
    have a1 := Int.emod_nonneg ab (show (10 : Int) ^ 300 ≠ 0 from fun z => by rw [z] at p300; cases p300)
    have a2 := Int.emod_lt_of_pos ab p300
    generalize ab % 10 ^ 300 = own at a1 a2
    obtain ⟨k, hk, k1, k2⟩ : ∃ k : Int, (if decide (10 ^ (18 : Int).toNat ≤ ab) = true then (1 : Int) else 0) = k ∧ 0 ≤ k ∧ k ≤ 1 := ⟨_, rfl, by split <;> decide, by split <;> decide⟩
    refine ⟨_, _, rfl, rfl, ?_, ?_⟩
    · rw [hk]; exact .inr ⟨by omega, by omega⟩
    rw [hk]
    have o1 : 0 ≤ own * k := Int.mul_nonneg a1 k1
    have o2 : own * k < 10 ^ 300 := by
      have : k = 0 ∨ k = 1 := by omega
      rcases this with rfl | rfl
      · rw [Int.mul_zero]; exact p300
      · rw [Int.mul_one]; exact a2
    generalize own * k = ow at o1 o2
    refine y_seq (y_set ?_)
    refine ev_IC (ev_int1 ?_)
    walk_at "go"
    refine ⟨_, rfl, ?_⟩
    walk_at "go"
    refine ⟨_, _, rfl, rfl, by decide, ?_⟩
    have s1 := Int.emod_nonneg cell (show (2305843009213693921 : Int) ≠ 0 by decide)
    have s2 := Int.emod_lt_of_pos cell (show (0 : Int) < 2305843009213693921 by decide)
    generalize cell % 2305843009213693921 = small at s1 s2
    refine y_retO (en_pot (en_lst ?_))
    walk_at "go"
    refine ev_int1 ?_
    walk_at "go"
    refine ⟨_, _, rfl, rfl, .inl ⟨by omega, by omega⟩, ?_⟩
    walk_at "go"
    refine ⟨_, _, rfl, rfl, .inl ⟨by decide, by decide⟩, ?_⟩
    walk_at "go"
    refine ⟨_, _, rfl, rfl, .inr ⟨by omega, by omega⟩, ?_⟩
    refine ⟨_, _, rfl, rfl, ?_⟩
    walk_at "go"
    refine ⟨_, _, rfl, rfl, ?_⟩
    walk_at "go"
    refine ⟨_, rfl, ?_⟩
    walk_at "go"
    refine ⟨_, _, rfl, rfl, by decide, ?_⟩
    walk_at "go"
    refine ⟨by simp, ow, _, 0, 0, rfl, ⟨o1, o2, Int.emod_nonneg _ (by decide), Int.emod_lt_of_pos _ (by decide), by decide, by decide⟩, h⟩
  refine y_seq (y_set (ev_if ?_))
  walk_at "go"
  refine ⟨_, _, rfl, rfl, _, rfl, fun hb => ?_, fun hb => ?_⟩
  · have hb := of_decide_eq_true hb
    have hlt : x < ns.length := by omega
    refine ev_six rfl ?_
    walk_at "go"
    refine ⟨_, ns[x], rfl, atI_nat (List.getElem?_eq_getElem hlt), ?_⟩
    exact fin _
  · refine ev_I (ev_I (ev_IC (ev_int1 (ea_cons (ev_sum (ea_cons (ev_ssl rfl ?_)))))))
    walk_at "go"
    refine ⟨((1 : Nat) : Int), rfl, ?_⟩
    walk_at "go"
    rw [cut_to, ← List.map_take]
    refine ⟨_, rfl, ?_⟩
    walk_at "go"
    refine ⟨_, rfl, ?_⟩
    walk_at "go"
    refine ⟨_, _, rfl, rfl, by decide, ?_⟩
    walk_at "go"
    refine ⟨_, _, rfl, rfl, .inl ⟨by decide, by decide⟩, ?_⟩
    refine ⟨_, _, rfl, rfl, ?_⟩
    walk_at "go"
    refine ⟨_, _, rfl, rfl, ?_⟩
    exact fin _
end Lp


set_option Elab.async false
set_option linter.all false
set_option maxRecDepth 100000
set_option maxHeartbeats 4000000
/-! Lp: armed webs. -/
namespace Lp
open PySem PySem.Spec L2
local macro_rules | `(tactic| walk_at "e1") => `(tactic| first
  | (with_reducible refine y_seq ?_) | (with_reducible refine ev_var (by with_unfolding_all rfl) ?_) | (with_reducible refine ev_int ?_) | (with_reducible refine ev_bl ?_) | (with_reducible refine ev_non ?_) | (with_reducible refine ev_str ?_)
  | (with_reducible refine y_ret ?_) | (with_reducible refine y_retN ?_) | (with_reducible refine y_next ?_) | (with_reducible refine x_if ?_) | (with_reducible refine y_setM (em_call ?_)) | (with_reducible refine y_set ?_) | (with_reducible refine y_drop ?_)
  | (with_reducible refine eb_test ?_) | (with_reducible refine eb_B ?_) | (with_reducible refine eb_not ?_) | (with_reducible refine eb_and ?_) | (with_reducible refine eb_or ?_) | (with_reducible refine eb_yes ?_)
  | (with_reducible refine ev_and ?_) | (with_reducible refine ev_or ?_) | (with_reducible refine ev_not ?_) | (with_reducible refine ev_if ?_)
  | (with_reducible refine ev_I ?_) | (with_reducible refine ev_BI ?_) | (with_reducible refine ev_IC ?_) | (with_reducible refine ev_chainB ?_) | (with_reducible refine ev_un ?_)
  | (with_reducible refine ev_oixC (by with_unfolding_all rfl) (by with_unfolding_all rfl) (by with_unfolding_all rfl) ?_) | (with_reducible refine ev_ixL ?_) | (with_reducible refine ev_ixT ?_) | (with_reducible refine ev_isi ?_) | (with_reducible refine ev_isN ?_) | (with_reducible refine ev_notN ?_) | (with_reducible refine ev_isB ?_) | (with_reducible refine ev_notB ?_)
  | (with_reducible refine ev_eqG ?_) | (with_reducible refine ev_neG ?_) | (with_reducible refine ev_eqD ?_) | (with_reducible refine ev_neD ?_)
  | (with_reducible refine ev_slen (by with_unfolding_all rfl) ?_) | (with_reducible refine ev_olen (by with_unfolding_all rfl) ?_) | (with_reducible refine ev_len ?_) | (with_reducible refine ev_tup ?_) | (with_reducible refine ev_lst ?_) | (with_reducible refine ea_nil ?_) | (with_reducible refine ea_cons ?_) | (with_reducible refine ea_star ?_)
  | (with_reducible refine ev_call ?_) | (with_reducible refine em_call ?_) | (with_reducible refine em_var (by with_unfolding_all rfl) ?_) | (with_reducible refine ev_max2 ?_) | (with_reducible refine ev_min2 ?_) | (with_reducible refine ev_abs ?_)
  | (with_reducible refine ev_all ?_) | (with_reducible refine ev_any ?_) | (with_reducible refine ev_sum ?_) | (with_reducible refine ev_max ?_) | (with_reducible refine ev_min ?_) | (with_reducible refine ev_tupOf ?_)
  | (with_reducible refine ev_sortedI ?_) | (with_reducible refine ev_sortedP ?_) | (with_reducible refine ev_sortedD ?_) | (with_reducible refine ev_maxVals ?_) | (with_reducible refine ev_dget ?_) | (with_reducible refine ev_dget1 ?_) | (with_reducible refine ev_din ?_) | (with_reducible refine ev_dnotin ?_)
  | (with_reducible refine ev_slL ?_) | (with_reducible refine ev_slT ?_) | (with_reducible refine eo_none ?_) | (with_reducible refine eo_some ?_) | (with_reducible refine ev_cat ?_) | (with_reducible refine ev_ltT ?_) | (with_reducible refine ev_inI ?_)
  | (with_reducible refine ei_list ?_) | (with_reducible refine ei_tup ?_) | (with_reducible refine ei_rng1 ?_) | (with_reducible refine ei_rng2 ?_) | (with_reducible refine ei_zip ?_) | (with_reducible refine eg_name ?_) | (with_reducible refine eg_tup ?_) | (with_reducible refine egs_name ?_) | (with_reducible refine egs_nil ?_)
  | (with_reducible refine x_never ?_))
local macro_rules | `(tactic| walk_at "e") => `(tactic| first | walk_at "e1" | exact ⟨_, _, rfl, rfl, rfl⟩ | (refine ⟨_, _, rfl, rfl, ?_⟩) | (refine ⟨_, rfl, ?_⟩))
local macro_rules | `(tactic| walk_at "go") => `(tactic| repeat walk_at "e1")
def armL (f i : Nat) : List (Nat × Nat) := (List.range i).flatMap fun arm => (0, 1 + arm * f) :: (List.range (f - 1)).map fun j => (1 + arm * f + j, 1 + arm * f + j + 1)
theorem armL_succ (f i : Nat) : armL f (i + 1) = armL f i ++ ((0, 1 + i * f) :: (List.range (f - 1)).map fun j => (1 + i * f + j, 1 + i * f + j + 1)) := by
  unfold armL
  rw [List.range_succ, List.flatMap_append]
  simp
theorem armL_len (f i : Nat) (h : f ≤ 13) : (armL f i).length ≤ 13 * i := by
  induction i with
  | zero => simp [armL]
  | succ i ih =>
    rw [armL_succ, List.length_append, List.length_cons, List.length_map, List.length_range]
    omega
theorem arm_all : ((List.range 14).all fun f => decide (f < 1 ∨ ((armL f 3).Nodup ∧ (∀ t ∈ armL f 3, t ∈ (armedW f).ts) ∧ ∀ t ∈ (armedW f).ts, t ∈ armL f 3))) = true := by
  decide +kernel
theorem armed_list {f : Nat} (h1 : 1 ≤ f) (h2 : f ≤ 13) : (armedW f).ts.Perm (armL f 3) := by
  have := of_decide_eq_true (List.all_eq_true.mp arm_all f (List.mem_range.mpr (by omega)))
  obtain ⟨a, b, c⟩ := this.resolve_left (by omega)
  exact (List.perm_ext_iff_of_nodup (asc_nodup (Wb_asc _ _)) a).mpr fun t => ⟨c t, b t⟩
def A_armed (ds : List PyData) (Φ : PyData → Prop) : Prop := ∃ f : Nat, ds = [nD f] ∧ 1 ≤ f ∧ f ≤ 13 ∧ Φ (webD (armedW f))
abbrev sp_armed : Sp := spD A_armed
def t_armed (K : PySem.W.Frag) : TS := (tSeq (tDrop (tCall sp_look_at_int [] E0 (tCons (tVar 0) (tCons (tC (.int 1)) (tCons (tC (.int 13)) tNil))))) (tSeq (tAsg (tLst tNil) (gName 1)) (tSeq (tFor (iRng1 (tCons (tC (.int 3)) tNil)) (gName 2) (tSeq (tAsg (tOp (rI0 fun i j => .int (i + j)) (tC (.int 1)) (tOp (rI CMul fun i j => .int (i * j)) (tVar 2) (tVar 0))) (gName 3)) (tDrop (tBM K "list" rExtend (tVar 1) (tCons (tLst (tCons (tTup (tCons (tC (.int 0)) (tCons (tVar 3) tNil))) (StX.tStar K (tLc (iRng2 (tCons (tVar 3) (tCons (tOp (rI0 fun i j => .int (i - j)) (tOp (rI0 fun i j => .int (i + j)) (tVar 3) (tVar 0)) (tC (.int 1))) tNil))) (gName 4) tYes (tTup (tCons (tVar 4) (tCons (tOp (rI0 fun i j => .int (i + j)) (tVar 4) (tC (.int 1))) tNil))) [4]) tNil))) tNil))))) (tRet (tTup (tCons (tOp (rI0 fun i j => .int (i + j)) (tC (.int 1)) (tOp (rI CMul fun i j => .int (i * j)) (tC (.int 3)) (tVar 0))) (tCons (tCB (rTupOf K) (tCons (tCB (rSortedPO K) (tCons (tVar 1) tNil)) tNil)) tNil)))))))
def N_armed : List Str := ["far", "ties", "arm", "first", "at"]
theorem len_armed : ∀ vs H Q E, sp_armed vs H Q E → vs.length = (["far"] : List Str).length := lenD fun ds Φ h => by
  obtain ⟨f, rfl, h1, h2, h⟩ := h; rfl
theorem rd_armed {K : PySem.W.Frag} : ∀ vs H Q E, sp_armed vs H Q E → t_armed K { nx := fun _ H' => Q .non H', rt := Q } (L2.start N_armed vs) H := rd_D fun ds Φ h => by
  obtain ⟨f, rfl, h1, h2, h⟩ := h
  show Ex K _ _ [.d (nD f), .e, .e, .e, .e]
  unfold t_armed
  walk_at "go"
  refine ⟨_, _, _, rfl, by omega, by omega, ?_⟩
  refine y_seq (y_setN (en_lst ?_))
  walk_at "go"
  refine ⟨by simp, fun a => ?_⟩
  refine y_seq (y_for (js := [2]) ?_)
  walk_at "go"
  refine ⟨3, rfl, by omega, by omega, fun i as' => ∃ s2 s3 s4, as' = [.d (nD f), .o a (.lst ((armL f i).map tD)), s2, s3, s4], ⟨_, _, _, rfl⟩, ?_, ?_⟩
  · rintro i x as' hx ⟨s2, s3, s4, rfl⟩
    have hx' : ((List.range 3).map nD)[i]? = some x := by
      rw [show (3 : Int).toNat = 3 from rfl, rangeI_nat] at hx; exact hx
    obtain ⟨hi, rfl⟩ := range_at hx'
    refine eg_name (y_seq (y_set ?_))
    have hm : i * f ≤ 2 * 13 := Nat.mul_le_mul (by omega) h2
    have em : (i : Int) * (f : Int) = ((i * f : Nat) : Int) := by rw [Int.natCast_mul]
    walk_at "go"
    refine ⟨_, _, rfl, rfl, .inl ⟨by omega, by omega⟩, ?_⟩
    refine ⟨_, _, rfl, rfl, ?_⟩
    rw [em, show (1 : Int) + ((i * f : Nat) : Int) = ((1 + i * f : Nat) : Int) by omega]
    generalize hg : 1 + i * f = g
    refine y_ext rfl ?_
    walk_at "go"
    refine ⟨by simp, ?_⟩
    refine ea_star ?_
    refine ev_lcM (fun j : Nat => nD (g + j)) (fun j => tD (g + j, g + j + 1)) (js := [4]) (by decide) ?_
    walk_at "go"
    refine ⟨_, _, rfl, rfl, ?_⟩
    walk_at "go"
    refine ⟨_, _, rfl, rfl, ?_⟩
    walk_at "go"
    refine ⟨_, _, rfl, by omega, by omega, List.range (f - 1), ?_, by simp; omega, ?_, ?_⟩
    · rw [show ((g : Int) + (f : Int) - 1 - (g : Int)).toNat = f - 1 by omega, rangeI_off, List.map_map]; rfl
    · intro j hj
      walk_at "go"
      refine ⟨_, _, rfl, rfl, ?_⟩
      walk_at "go"
      exact ⟨by simp, rfl, rfl⟩
    · refine ⟨_, rfl, ?_⟩
      walk_at "go"
      refine ⟨by simp; omega, _, _, rfl, rfl, ?_, .d (nD i), .d (nD g), keepS s4, ?_⟩
      · have := armL_len f i h2
        simp only [List.length_map, List.length_cons, List.length_append, List.length_range, List.length_nil]
        omega
      · rw [armL_succ, hg, List.map_append, List.map_cons, List.map_map, List.append_nil]
        rfl
  · rintro as' ⟨s2, s3, s4, rfl⟩
    rw [show ((rangeI 0 (3 : Int).toNat).map PyData.int).length = 3 from rfl]
    refine x_freeze (j := 1) rfl ?_
    walk_at "go"
    refine ⟨_, _, rfl, rfl, .inl ⟨by omega, by omega⟩, ?_⟩
    refine ⟨_, _, rfl, rfl, ?_⟩
    walk_at "go"
    refine ⟨(armL f 3).map castP, by rw [← map_tD], fun qs pm sm => ?_⟩
    walk_at "go"
    refine ⟨_, rfl, ?_⟩
    walk_at "go"
    refine ⟨by simp, ?_⟩
    rw [sort_ties pm sm (armed_list h1 h2) (Wb_asc _ _), ← map_tD]
    rw [show (1 : Int) + 3 * (f : Int) = ((1 + 3 * f : Nat) : Int) by omega]
    exact h
def A__law_all_pairs (ds : List PyData) (Φ : PyData → Prop) : Prop := ∃ f : Nat, ds = [nD f] ∧ f ≤ 40 ∧ Φ (.list ((rowsT f fun _ => List.range f).map fun t => tD (t.1 + 1, t.2 + 1)))
abbrev sp__law_all_pairs : Sp := spD A__law_all_pairs
def t__law_all_pairs (K : PySem.W.Frag) : TS := (tSeq (tAsg (tLst tNil) (gName 1)) (tSeq (tFor (iRng2 (tCons (tC (.int 1)) (tCons (tOp (rI0 fun i j => .int (i + j)) (tVar 0) (tC (.int 1))) tNil))) (gName 2) (tDrop (tBM K "list" rExtend (tVar 1) (tCons (tLc (iRng2 (tCons (tC (.int 1)) (tCons (tOp (rI0 fun i j => .int (i + j)) (tVar 0) (tC (.int 1))) tNil))) (gName 3) tYes (tTup (tCons (tVar 2) (tCons (tVar 3) tNil))) [3]) tNil)))) (tRet (tVar 1))))
def N__law_all_pairs : List Str := ["far", "found", "one", "other"]
theorem len__law_all_pairs : ∀ vs H Q E, sp__law_all_pairs vs H Q E → vs.length = (["far"] : List Str).length := lenD fun ds Φ h => by
  obtain ⟨f, rfl, hf, h⟩ := h; rfl
theorem rd__law_all_pairs {K : PySem.W.Frag} : ∀ vs H Q E, sp__law_all_pairs vs H Q E → t__law_all_pairs K { nx := fun _ H' => Q .non H', rt := Q } (L2.start N__law_all_pairs vs) H := rd_D fun ds Φ h => by
  obtain ⟨f, rfl, hf, h⟩ := h
  show Ex K _ _ [.d (nD f), .e, .e, .e]
  unfold t__law_all_pairs
  refine y_seq (y_setN (en_lst ?_))
  walk_at "go"
  refine ⟨by simp, fun a => ?_⟩
  refine y_seq (y_for (js := [2]) ?_)
  walk_at "go"
  refine ⟨_, _, rfl, rfl, ?_⟩
  have e1 : ∀ m : Nat, ((rangeI 1 m).map PyData.int) = (List.range m).map fun i => nD (i + 1) := fun m => by
    rw [show (1 : Int) = ((1 : Nat) : Int) from rfl, rangeI_off, List.map_map]
    exact List.map_congr_left fun x _ => by show PyData.int ((1 + x : Nat) : Int) = PyData.int ((x + 1 : Nat) : Int); rw [Nat.add_comm]
  walk_at "go"
  refine ⟨1, (f : Int) + 1, rfl, by omega, by omega, fun i as' => ∃ s2 s3, as' = [.d (nD f), .o a (.lst ((rowsT i fun _ => List.range f).map fun t => tD (t.1 + 1, t.2 + 1))), s2, s3], ⟨_, _, rfl⟩, ?_, ?_⟩
  · rintro i x as' hx ⟨s2, s3, rfl⟩
    rw [show ((f : Int) + 1 - 1).toNat = f by omega, e1, List.getElem?_map] at hx
    obtain ⟨j, hj, rfl⟩ := Option.map_eq_some_iff.mp hx
    have hi := (List.getElem?_eq_some_iff.mp hj).1
    rw [List.getElem?_eq_getElem hi, List.getElem_range] at hj
    cases hj
    rw [List.length_range] at hi
    refine eg_name (y_ext rfl ?_)
    refine ev_lcM (fun j : Nat => nD (j + 1)) (fun j => tD (i + 1, j + 1)) (js := [3]) (by decide) ?_
    walk_at "go"
    refine ⟨_, _, rfl, rfl, ?_⟩
    walk_at "go"
    refine ⟨1, (f : Int) + 1, rfl, by omega, by omega, List.range f, ?_, by simp; omega, ?_, ?_⟩
    · rw [show ((f : Int) + 1 - 1).toNat = f by omega, e1]
    · intro j hj
      walk_at "go"
      exact ⟨by simp, rfl, rfl⟩
    · have hl := rowsT_len (n := i) (m := 40) (row := fun _ => List.range f) fun x => by simp; omega
      refine ⟨_, _, rfl, rfl, ?_, .d (nD (i + 1)), keepS s3, ?_⟩
      · simp only [List.length_map, List.length_range]; omega
      · rw [rowsT_succ, List.map_append, List.map_map]
        rfl
  · rintro as' ⟨s2, s3, rfl⟩
    rw [show ((f : Int) + 1 - 1).toNat = f by omega, List.length_map, rangeI_len]
    refine x_freeze (j := 1) rfl ?_
    walk_at "go"
    exact h
end Lp


set_option Elab.async false
set_option linter.all false
set_option maxRecDepth 100000
set_option maxHeartbeats 4000000
/-! Lp: webs by how far their places are. -/
namespace Lp
structure Met (n : Nat) (δ : Nat → Nat → Nat) : Prop where
  refl : ∀ x, x < n → δ x x = 0
  pos : ∀ x y, x < n → y < n → δ x y = 0 → x = y
  symm : ∀ x y, x < n → y < n → δ x y = δ y x
  tri : ∀ x y z, x < n → y < n → z < n → δ x z ≤ δ x y + δ y z
  back : ∀ x y, x < n → y < n → x ≠ y → ∃ z, z < n ∧ δ z y = 1 ∧ δ x y = δ x z + 1
def Wm (n : Nat) (δ : Nat → Nat → Nat) : Web := Wb n fun x y => decide (δ x y = 1)
theorem mem_Wm {n : Nat} {δ : Nat → Nat → Nat} {t : Nat × Nat} : t ∈ (Wm n δ).ts ↔ t.1 < t.2 ∧ t.2 < n ∧ δ t.1 t.2 = 1 := by
  unfold Wm
  rw [mem_Wb]
  simp only [decide_eq_true_eq]
theorem Wm_ok {n : Nat} (δ : Nat → Nat → Nat) (h1 : 1 ≤ n) (h2 : n ≤ 40) : (Wm n δ).Ok := Wb_ok _ h1 h2
theorem Wm_ext {n : Nat} {δ ε : Nat → Nat → Nat} (h : ∀ x y, x < y → y < n → (δ x y = 1 ↔ ε x y = 1)) : Wm n δ = Wm n ε := by
  have : (Wm n δ).ts = (Wm n ε).ts := asc_unique (Wb_asc _ _) (Wb_asc _ _) fun t => by
    rw [mem_Wm, mem_Wm]
    exact ⟨fun ⟨a, b, c⟩ => ⟨a, b, (h _ _ a b).mp c⟩, fun ⟨a, b, c⟩ => ⟨a, b, (h _ _ a b).mpr c⟩⟩
  show (⟨n, (Wm n δ).ts⟩ : Web) = ⟨n, (Wm n ε).ts⟩
  rw [this]
theorem Wb_Wm {n : Nat} {p : Nat → Nat → Bool} {δ : Nat → Nat → Nat} (h : ∀ x y, x < y → y < n → (p x y = true ↔ δ x y = 1)) : Wb n p = Wm n δ := by
  have : (Wb n p).ts = (Wm n δ).ts := asc_unique (Wb_asc _ _) (Wb_asc _ _) fun t => by
    rw [mem_Wm, mem_Wb]
    exact ⟨fun ⟨a, b, c⟩ => ⟨a, b, (h _ _ a b).mp c⟩, fun ⟨a, b, c⟩ => ⟨a, b, (h _ _ a b).mpr c⟩⟩
  show (⟨n, (Wb n p).ts⟩ : Web) = ⟨n, (Wm n δ).ts⟩
  rw [this]
section
variable {n : Nat} {δ : Nat → Nat → Nat}
theorem Met.step (h : Met n δ) (h1 : 1 ≤ n) (h2 : n ≤ 40) {x y : Nat} : y ∈ Lp.step (Wm n δ).near x ↔ x < n ∧ y < n ∧ δ x y = 1 := by
  by_cases hx : x < n
  · rw [near_step (W := Wm n δ) hx, mem_nb (Wm_ok δ h1 h2), mem_Wm, mem_Wm]
    simp only
    constructor
    · rintro (⟨a, b, c⟩ | ⟨a, b, c⟩)
      · exact ⟨hx, b, c⟩
      · exact ⟨hx, by omega, by rw [h.symm x y hx (by omega)]; exact c⟩
    · rintro ⟨a, b, c⟩
      have ne : x ≠ y := fun e => by rw [e, h.refl y b] at c; omega
      rcases Nat.lt_or_gt_of_ne ne with z | z
      · exact .inl ⟨z, b, c⟩
      · exact .inr ⟨z, hx, by rw [h.symm y x b hx]; exact c⟩
  · rw [near_step0 (W := Wm n δ) hx]
    exact ⟨fun z => (nomatch z), fun z => absurd z.1 hx⟩
theorem Met.bfs (h : Met n δ) (h1 : 1 ≤ n) (h2 : n ≤ 40) {x : Nat} (hx : x < n) : Bfs (Wm n δ).near x (List.range n) (δ x) := by
  have hn : (Wm n δ).near.length = n := near_len _
  refine ⟨List.nodup_range, fun y hy => by rw [hn]; exact List.mem_range.mp hy, List.mem_range.mpr hx, h.refl x hx, fun z hz y hy => ?_, fun y hy ne => ?_⟩
  · obtain ⟨a, b, c⟩ := (h.step h1 h2).mp hy
    refine ⟨List.mem_range.mpr b, ?_⟩
    have := h.tri x z y hx a b
    omega
  · have hy := List.mem_range.mp hy
    obtain ⟨z, hz, e1, e2⟩ := h.back x y hx hy (fun e => ne e.symm)
    exact ⟨z, List.mem_range.mpr hz, (h.step h1 h2).mpr ⟨hz, hy, e1⟩, e2⟩
theorem Met.dst (h : Met n δ) (h1 : 1 ≤ n) (h2 : n ≤ 40) {x y k : Nat} : Dst (Wm n δ).near x y k ↔ x < n ∧ y < n ∧ δ x y = k := by
  constructor
  · intro hd
    have hl := hd.lt
    rw [near_len (Wm n δ)] at hl
    have hx : x < n := hl.1
    exact ⟨hl.1, hl.2, ((h.bfs h1 h2 hx).dst.mp hd).2⟩
  · rintro ⟨hx, hy, e⟩
    exact (h.bfs h1 h2 hx).dst.mpr ⟨List.mem_range.mpr hy, e⟩
theorem Met.joined (h : Met n δ) (h1 : 1 ≤ n) (h2 : n ≤ 40) : (Wm n δ).joined := by
  have : ∀ k y, y < n → δ 0 y = k → Rch (Wm n δ).near [] 0 y := by
    intro k
    induction k with
    | zero => intro y hy e; rw [← h.pos 0 y (by omega) hy e]; exact .refl
    | succ k ih =>
      intro y hy e
      have ne : 0 ≠ y := fun z => by rw [← z, h.refl 0 (by omega)] at e; omega
      obtain ⟨z, hz, e1, e2⟩ := h.back 0 y (by omega) hy ne
      exact .step (ih z hz (by omega)) ((h.step h1 h2).mpr ⟨hz, hy, e1⟩) (by simp)
  exact fun y hy => this _ y hy rfl
theorem exists_max (g : Nat → Nat) : ∀ n, 0 < n → ∃ m, (∃ x < n, g x = m) ∧ ∀ x < n, g x ≤ m
  | 1, _ => ⟨g 0, ⟨0, by omega, rfl⟩, fun x hx => by rw [show x = 0 by omega]; omega⟩
  | n + 2, _ => by
    obtain ⟨m, ⟨x, hx, e⟩, h⟩ := exists_max g (n + 1) (by omega)
    by_cases hm : g (n + 1) ≤ m
    · exact ⟨m, ⟨x, by omega, e⟩, fun y hy => by
        by_cases ey : y = n + 1
        · subst ey; exact hm
        · exact h y (by omega)⟩
    · exact ⟨g (n + 1), ⟨n + 1, by omega, rfl⟩, fun y hy => by
        by_cases ey : y = n + 1
        · subst ey; omega
        · have := h y (by omega); omega⟩
theorem Met.ecc (h : Met n δ) (h1 : 1 ≤ n) (h2 : n ≤ 40) {x m : Nat} (hx : x < n) (hm : ∃ y < n, δ x y = m) (hl : ∀ y < n, δ x y ≤ m) : ecc (Wm n δ).near x = m := by
  refine IsEcc.ecc ⟨?_, fun y j hd => ?_⟩
  · obtain ⟨y, hy, e⟩ := hm
    exact ⟨y, (h.dst h1 h2).mpr ⟨hx, hy, e⟩⟩
  · obtain ⟨_, hy, e⟩ := (h.dst h1 h2).mp hd
    rw [← e]; exact hl y hy
theorem Met.longest (h : Met n δ) (h1 : 1 ≤ n) (h2 : n ≤ 40) {L : Nat} (hL : ∃ x < n, ∃ y < n, δ x y = L) (hm : ∀ x < n, ∀ y < n, δ x y ≤ L) {m : Nat} (a : ∃ x < n, Lp.ecc (Wm n δ).near x = m) (b : ∀ x < n, Lp.ecc (Wm n δ).near x ≤ m) : m = L := by
  have ex : ∀ x < n, (∃ y < n, δ x y = Lp.ecc (Wm n δ).near x) ∧ ∀ y < n, δ x y ≤ Lp.ecc (Wm n δ).near x := fun x hx => by
    obtain ⟨k, k1, k2⟩ := exists_max (δ x) n (by omega)
    rw [h.ecc h1 h2 hx k1 k2]
    exact ⟨k1, k2⟩
  refine Nat.le_antisymm ?_ ?_
  · obtain ⟨x, hx, e⟩ := a
    obtain ⟨y, hy, e2⟩ := (ex x hx).1
    rw [← e, ← e2]; exact hm x hx y hy
  · obtain ⟨x, hx, y, hy, e⟩ := hL
    have := (ex x hx).2 y hy
    have := b x hx
    omega
/-! ### powers -/
def cd (δ : Nat → Nat → Nat) (k : Nat) : Nat → Nat → Nat := fun x y => (δ x y + k - 1) / k
theorem cd_le {a k m : Nat} (hk : 1 ≤ k) : (a + k - 1) / k ≤ m ↔ a ≤ m * k := by
  rw [← Nat.lt_succ_iff, Nat.div_lt_iff_lt_mul (by omega), Nat.succ_mul]
  omega
theorem cd_one {a k : Nat} (hk : 1 ≤ k) : (a + k - 1) / k = 1 ↔ 1 ≤ a ∧ a ≤ k := by
  have h1 := cd_le (a := a) (k := k) (m := 1) hk
  have h0 := cd_le (a := a) (k := k) (m := 0) hk
  simp only [Nat.one_mul, Nat.zero_mul] at h1 h0
  omega
theorem Met.geo (h : Met n δ) {x y : Nat} (hx : x < n) (hy : y < n) : ∀ i, i ≤ δ x y → ∃ z, z < n ∧ δ z y = i ∧ δ x z + i = δ x y := by
  intro i
  induction i with
  | zero => intro _; exact ⟨y, hy, h.refl y hy, rfl⟩
  | succ i ih =>
    intro hi
    obtain ⟨z, hz, e1, e2⟩ := ih (by omega)
    have ne : x ≠ z := fun e => by rw [← e, h.refl x hx] at e2; omega
    obtain ⟨w, hw, e3, e4⟩ := h.back x z hx hz ne
    have t1 := h.tri w z y hw hz hy
    have t2 := h.tri x w y hx hw hy
    exact ⟨w, hw, by omega, by omega⟩
theorem Met.cd (h : Met n δ) {k : Nat} (hk : 1 ≤ k) : Met n (cd δ k) := by
  refine ⟨fun x hx => ?_, fun x y hx hy e => ?_, fun x y hx hy => ?_, fun x y z hx hy hz => ?_, fun x y hx hy ne => ?_⟩
  · unfold Lp.cd; rw [h.refl x hx]; exact Nat.div_eq_of_lt (by omega)
  · have := (cd_le (a := δ x y) (m := 0) hk).mp (by unfold Lp.cd at e; omega)
    exact h.pos x y hx hy (by omega)
  · unfold Lp.cd; rw [h.symm x y hx hy]
  · unfold Lp.cd
    rw [cd_le hk, Nat.add_mul]
    have a := (cd_le (a := δ x y) (k := k) hk).mp (Nat.le_refl _)
    have b := (cd_le (a := δ y z) (k := k) hk).mp (Nat.le_refl _)
    have := h.tri x y z hx hy hz
    omega
  · have p1 : 1 ≤ δ x y := by
      by_cases e : δ x y = 0
      · exact absurd (h.pos x y hx hy e) ne
      · omega
    by_cases hle : δ x y ≤ k
    · refine ⟨x, hx, ?_, ?_⟩
      · exact (cd_one hk).mpr ⟨p1, hle⟩
      · have e1 : Lp.cd δ k x y = 1 := (cd_one hk).mpr ⟨p1, hle⟩
        have e2 : Lp.cd δ k x x = 0 := by unfold Lp.cd; rw [h.refl x hx]; exact Nat.div_eq_of_lt (by omega)
        rw [e1, e2]
    · obtain ⟨z, hz, e1, e2⟩ := h.geo hx hy k (by omega)
      refine ⟨z, hz, (cd_one hk).mpr ⟨by omega, by omega⟩, ?_⟩
      unfold Lp.cd
      have : δ x y + k - 1 = (δ x z + k - 1) + k := by omega
      rw [this, Nat.add_div_right _ (by omega)]
theorem Met.pow (h : Met n δ) (h1 : 1 ≤ n) (h2 : n ≤ 40) {k : Nat} (hk : 1 ≤ k) : (Wm n δ).pow k = Wm n (Lp.cd δ k) := by
  have : ((Wm n δ).pow k).ts = (Wm n (Lp.cd δ k)).ts := asc_unique (pow_ok (Wm_ok δ h1 h2) k).asc (Wb_asc _ _) fun t => by
    rw [mem_pow, mem_Wm]
    unfold Lp.cd
    rw [cd_one hk]
    constructor
    · rintro ⟨a, j, hj, hd⟩
      obtain ⟨b, c, e⟩ := (h.dst h1 h2).mp hd
      refine ⟨a, c, ?_, by omega⟩
      by_cases z : δ t.1 t.2 = 0
      · have := h.pos _ _ b c z; omega
      · omega
    · rintro ⟨a, b, c, d⟩
      exact ⟨a, _, d, (h.dst h1 h2).mpr ⟨by omega, b, rfl⟩⟩
  show (⟨n, ((Wm n δ).pow k).ts⟩ : Web) = ⟨n, (Wm n (Lp.cd δ k)).ts⟩
  rw [this]
theorem cd_cd (k m : Nat) (hk : 1 ≤ k) (hm : 1 ≤ m) {a : Nat} : ((a + k - 1) / k + m - 1) / m = 1 ↔ (a + k * m - 1) / (k * m) = 1 := by
  have hkm : 1 ≤ k * m := Nat.mul_pos hk hm
  rw [cd_one hm, cd_one hkm, cd_le hk, Nat.mul_comm m k]
  have := cd_le (a := a) (k := k) (m := 0) hk
  simp only [Nat.zero_mul] at this
  omega
/-! ### called otherwise -/
def iv (f : List Nat) (y : Nat) : Nat := f.idxOf y
theorem Nm.mem {f : List Nat} (h : Nm n f) {y : Nat} (hy : y < n) : y ∈ f := by
  by_cases hm : y ∈ f
  · exact hm
  · exfalso
    have nd : (y :: f).Nodup := List.nodup_cons.mpr ⟨hm, h.nodup⟩
    have := nodup_len nd (n := n) fun z hz => by
      rcases List.mem_cons.mp hz with rfl | hz
      · exact hy
      · exact h.lt z hz
    simp only [List.length_cons] at this
    have := h.len
    omega
theorem iv_lt {f : List Nat} (h : Nm n f) {y : Nat} (hy : y < n) : iv f y < n := by
  have := List.idxOf_lt_length_of_mem (h.mem hy)
  rw [h.len] at this
  exact this
theorem nm_iv {f : List Nat} (h : Nm n f) {y : Nat} (hy : y < n) : nm f (iv f y) = y := by
  have hl := List.idxOf_lt_length_of_mem (h.mem hy)
  unfold nm iv
  rw [List.getElem?_eq_getElem hl, List.getElem_idxOf hl]
  rfl
theorem iv_nm {f : List Nat} (h : Nm n f) {x : Nat} (hx : x < n) : iv f (nm f x) = x :=
  nm_inj h (iv_lt h (nm_lt h hx)) hx (nm_iv h (nm_lt h hx))
def ren (δ : Nat → Nat → Nat) (f : List Nat) : Nat → Nat → Nat := fun x y => δ (iv f x) (iv f y)
theorem Met.ren (h : Met n δ) {f : List Nat} (hf : Nm n f) : Met n (ren δ f) := by
  refine ⟨fun x hx => h.refl _ (iv_lt hf hx), fun x y hx hy e => ?_, fun x y hx hy => h.symm _ _ (iv_lt hf hx) (iv_lt hf hy), fun x y z hx hy hz => h.tri _ _ _ (iv_lt hf hx) (iv_lt hf hy) (iv_lt hf hz), fun x y hx hy ne => ?_⟩
  · have := h.pos _ _ (iv_lt hf hx) (iv_lt hf hy) e
    rw [← nm_iv hf hx, ← nm_iv hf hy, this]
  · obtain ⟨z, hz, e1, e2⟩ := h.back (iv f x) (iv f y) (iv_lt hf hx) (iv_lt hf hy) (fun e => ne (by rw [← nm_iv hf hx, ← nm_iv hf hy, e]))
    refine ⟨nm f z, nm_lt hf hz, ?_, ?_⟩
    · show δ (iv f (nm f z)) (iv f y) = 1
      rw [iv_nm hf hz]; exact e1
    · show δ (iv f x) (iv f y) = δ (iv f x) (iv f (nm f z)) + 1
      rw [iv_nm hf hz]; exact e2
theorem ren_mem (h : Met n δ) {f : List Nat} (hf : Nm n f) {t : Nat × Nat} : t ∈ (Wm n δ).ts.map (nmT f) ↔ t ∈ (Wm n (ren δ f)).ts := by
  rw [mem_Wm, List.mem_map]
  constructor
  · rintro ⟨s, hs, rfl⟩
    obtain ⟨a, b, c⟩ := mem_Wm.mp hs
    have b1 : s.1 < n := by omega
    have l1 := nm_lt hf b1
    have l2 := nm_lt hf b
    have ne : nm f s.1 ≠ nm f s.2 := fun e => by have := nm_inj hf b1 b e; omega
    unfold nmT Lp.ren
    simp only
    rcases Nat.lt_or_gt_of_ne ne with z | z
    · rw [Nat.min_eq_left (by omega), Nat.max_eq_right (by omega), iv_nm hf b1, iv_nm hf b]
      exact ⟨z, l2, c⟩
    · rw [Nat.min_eq_right (by omega), Nat.max_eq_left (by omega), iv_nm hf b1, iv_nm hf b, h.symm _ _ b b1]
      exact ⟨z, l1, c⟩
  · rintro ⟨a, b, c⟩
    have a1 : t.1 < n := by omega
    have i1 := iv_lt hf a1
    have i2 := iv_lt hf b
    unfold Lp.ren at c
    have ne : iv f t.1 ≠ iv f t.2 := fun e => by
      have := nm_iv hf a1; rw [e, nm_iv hf b] at this; omega
    rcases Nat.lt_or_gt_of_ne ne with z | z
    · refine ⟨(iv f t.1, iv f t.2), mem_Wm.mpr ⟨z, i2, c⟩, ?_⟩
      unfold nmT
      simp only
      rw [nm_iv hf a1, nm_iv hf b, Nat.min_eq_left (by omega), Nat.max_eq_right (by omega)]
    · refine ⟨(iv f t.2, iv f t.1), mem_Wm.mpr ⟨z, i1, by rw [h.symm _ _ i2 i1]; exact c⟩, ?_⟩
      unfold nmT
      simp only
      rw [nm_iv hf a1, nm_iv hf b, Nat.min_eq_right (by omega), Nat.max_eq_left (by omega)]
theorem ren_perm (h : Met n δ) (h1 : 1 ≤ n) (h2 : n ≤ 40) {f : List Nat} (hf : Nm n f) : (Wm n (ren δ f)).ts.Perm ((Wm n δ).ts.map (nmT f)) :=
  (List.perm_ext_iff_of_nodup (asc_nodup (Wb_asc _ _)) (nmT_inj (Wm_ok δ h1 h2) hf)).mpr fun t => (ren_mem h hf).symm
theorem ren_len (h : Met n δ) (h1 : 1 ≤ n) (h2 : n ≤ 40) {f : List Nat} (hf : Nm n f) : (Wm n (ren δ f)).ts.length = (Wm n δ).ts.length := by
  rw [(ren_perm h h1 h2 hf).length_eq, List.length_map]
theorem ren_web (h : Met n δ) (h1 : 1 ≤ n) (h2 : n ≤ 40) {f : List Nat} (hf : Nm n f) {V : Web} (hn : V.n = n) (ha : V.ts.Pairwise ltP) (hp : V.ts.Perm ((Wm n δ).ts.map (nmT f))) : V = Wm n (ren δ f) := by
  have : V.ts = (Wm n (ren δ f)).ts := asc_unique ha (Wb_asc _ _) fun t => by rw [hp.mem_iff, ren_mem h hf]
  cases V with
  | mk m ts =>
    simp only at hn this
    subst hn
    rw [this]; rfl
end
end Lp

set_option Elab.async false
set_option linter.all false
set_option maxRecDepth 100000
set_option maxHeartbeats 4000000
/-! Lp: rings, rows, wheels, two sides: how far. -/
namespace Lp
def ad (x y : Nat) : Nat := (x - y) + (y - x)
def dRing (n : Nat) (x y : Nat) : Nat := min (ad x y) (n - ad x y)
def dRow (x y : Nat) : Nat := ad x y
def dFull (x y : Nat) : Nat := if x = y then 0 else 1
def dSides (a : Nat) (x y : Nat) : Nat := if x = y then 0 else if (x < a ↔ y < a) then 2 else 1
def dWheel (n : Nat) (x y : Nat) : Nat := if x = y then 0 else if x + 1 = n ∨ y + 1 = n ∨ y = x + 1 ∨ x = y + 1 ∨ (x = 0 ∧ y + 2 = n) ∨ (y = 0 ∧ x + 2 = n) then 1 else 2
theorem met_row (n : Nat) : Met n dRow := by
  refine ⟨fun x hx => ?_, fun x y hx hy e => ?_, fun x y hx hy => ?_, fun x y z hx hy hz => ?_, fun x y hx hy ne => ?_⟩ <;> simp only [dRow, ad] at *
  · omega
  · omega
  · omega
  · omega
  · by_cases h : x < y
    · exact ⟨y - 1, by omega, by omega, by omega⟩
    · exact ⟨y + 1, by omega, by omega, by omega⟩
theorem met_ring {n : Nat} (hn : 3 ≤ n) : Met n (dRing n) := by
  refine ⟨fun x hx => ?_, fun x y hx hy e => ?_, fun x y hx hy => ?_, fun x y z hx hy hz => ?_, fun x y hx hy ne => ?_⟩ <;> simp only [dRing, ad] at *
  · omega
  · omega
  · omega
  · omega
  · by_cases h : x < y
    · by_cases h2 : 2 * (y - x) ≤ n
      · exact ⟨y - 1, by omega, by omega, by omega⟩
      · by_cases h3 : y + 1 = n
        · exact ⟨0, by omega, by omega, by omega⟩
        · exact ⟨y + 1, by omega, by omega, by omega⟩
    · by_cases h2 : 2 * (x - y) ≤ n
      · exact ⟨y + 1, by omega, by omega, by omega⟩
      · by_cases h3 : y = 0
        · exact ⟨n - 1, by omega, by omega, by omega⟩
        · exact ⟨y - 1, by omega, by omega, by omega⟩
theorem met_full (n : Nat) : Met n dFull := by
  refine ⟨fun x hx => ?_, fun x y hx hy e => ?_, fun x y hx hy => ?_, fun x y z hx hy hz => ?_, fun x y hx hy ne => ?_⟩ <;> simp only [dFull] at *
  · simp
  · split at e <;> omega
  · split <;> split <;> omega
  · split <;> split <;> split <;> omega
  · exact ⟨x, hx, by simp [ne], by simp [ne]⟩
theorem met_sides {a b : Nat} (ha : 1 ≤ a) (hb : 1 ≤ b) : Met (a + b) (dSides a) := by
  refine ⟨fun x hx => ?_, fun x y hx hy e => ?_, fun x y hx hy => ?_, fun x y z hx hy hz => ?_, fun x y hx hy ne => ?_⟩ <;> simp only [dSides] at *
  · simp
  · split at e
    · assumption
    · split at e <;> omega
  · split <;> split <;> (try split) <;> (try split) <;> omega
  · split <;> (try split) <;> (try split) <;> (try split) <;> (try split) <;> (try split) <;> omega
  · by_cases h : (x < a ↔ y < a)
    · by_cases hx2 : x < a
      · have hy2 := h.mp hx2
        refine ⟨a, by omega, ?_, ?_⟩
        · rw [if_neg (by omega), if_neg (by omega)]
        · rw [if_neg ne, if_pos h, if_neg (by omega), if_neg (by omega)]
      · have hy2 : ¬ y < a := fun z => hx2 (h.mpr z)
        refine ⟨0, by omega, ?_, ?_⟩
        · rw [if_neg (by omega), if_neg (by omega)]
        · rw [if_neg ne, if_pos h, if_neg (by omega), if_neg (by omega)]
    · exact ⟨x, hx, by rw [if_neg ne, if_neg h], by rw [if_neg ne, if_neg h, if_pos rfl]⟩
theorem met_wheel {n : Nat} (hn : 4 ≤ n) : Met n (dWheel n) := by
  have r2 : ∀ x y, dWheel n x y ≤ 2 := fun x y => by unfold dWheel; split <;> (try split) <;> omega
  have r1 : ∀ x y, x ≠ y → 1 ≤ dWheel n x y := fun x y h => by unfold dWheel; rw [if_neg h]; split <;> omega
  have r0 : ∀ x, dWheel n x x = 0 := fun x => by unfold dWheel; simp
  have hub : ∀ x, x < n → x ≠ n - 1 → dWheel n x (n - 1) = 1 := fun x hx ne => by unfold dWheel; rw [if_neg ne, if_pos (by omega)]
  have hub2 : ∀ x, x < n → x ≠ n - 1 → dWheel n (n - 1) x = 1 := fun x hx ne => by unfold dWheel; rw [if_neg (fun e => ne e.symm), if_pos (by omega)]
  refine ⟨fun x hx => r0 x, fun x y hx hy e => ?_, fun x y hx hy => ?_, fun x y z hx hy hz => ?_, fun x y hx hy ne => ?_⟩
  · by_cases h : x = y
    · exact h
    · have := r1 x y h; omega
  · unfold dWheel; split <;> split <;> (try split) <;> (try split) <;> omega
  · by_cases h1 : x = y
    · subst h1; rw [r0]; omega
    · by_cases h2 : y = z
      · subst h2; rw [r0]; omega
      · have := r1 x y h1; have := r1 y z h2; have := r2 x z; omega
  · by_cases h : dWheel n x y = 1
    · exact ⟨x, hx, h, by rw [h, r0]⟩
    · have h2 : dWheel n x y = 2 := by have := r1 x y ne; have := r2 x y; omega
      have nx : x ≠ n - 1 := fun e => by subst e; exact h (hub2 y hy (fun z => ne z.symm))
      have ny : y ≠ n - 1 := fun e => by subst e; exact h (hub x hx ne)
      exact ⟨n - 1, by omega, hub2 y hy ny, by rw [h2, hub x hx nx]⟩
theorem ring_Wm {n : Nat} (hn : 3 ≤ n) : ringW n = Wm n (dRing n) := Wb_Wm fun x y h1 h2 => by
  simp only [dRing, ad, Bool.or_eq_true, Bool.and_eq_true, decide_eq_true_eq]; omega
theorem row_Wm (n : Nat) : rowW n = Wm n dRow := Wb_Wm fun x y h1 h2 => by
  simp only [dRow, ad, decide_eq_true_eq]; omega
theorem full_Wm (n : Nat) : fullW n = Wm n dFull := Wb_Wm fun x y h1 h2 => by
  simp only [dFull, true_iff]; rw [if_neg (by omega)]
theorem sides_Wm (a b : Nat) : sidesW a b = Wm (a + b) (dSides a) := Wb_Wm fun x y h1 h2 => by
  simp only [dSides, Bool.and_eq_true, decide_eq_true_eq]
  rw [if_neg (by omega)]
  split <;> omega
theorem wheel_Wm (n : Nat) : wheelW n = Wm n (dWheel n) := Wb_Wm fun x y h1 h2 => by
  simp only [dWheel, Bool.or_eq_true, Bool.and_eq_true, decide_eq_true_eq]
  rw [if_neg (by omega)]
  split <;> omega
/-! ### what is counted -/
def lenT (n : Nat) (δ : Nat → Nat → Nat) : Nat := (Wm n δ).ts.length
theorem ring_count : ((List.range 41).all fun n => (List.range 13).all fun f => decide (n < 3 ∨ f < 1 ∨ (Wm n (cd (dRing n) f)).ts.length = if n ≤ 2 * f + 1 then n * (n - 1) / 2 else n * f)) = true := by
  decide +kernel
theorem row_count : ((List.range 41).all fun n => (List.range 12).all fun f => decide (n < 2 ∨ f < 1 ∨ (Wm n (cd dRow f)).ts.length = ((List.range f).map fun g => n - (g + 1)).sum)) = true := by
  decide +kernel
theorem ring_in : ((List.range 41).all fun n => (List.range 13).all fun f => decide (n < 3 ∨ f < 1 ∨ ((List.range n).filter fun y => decide (dRing n 0 y ≤ f)).length = min n (2 * f + 1))) = true := by
  decide +kernel
end Lp

set_option Elab.async false
set_option linter.all false
set_option maxRecDepth 100000
set_option maxHeartbeats 4000000
/-! Lp: calls on webs by how far. -/
namespace Lp
open PySem PySem.Spec L2
section
variable {n : Nat} {δ : Nat → Nat → Nat} {Φ : PyData → Prop}
theorem cl_ring (h1 : 3 ≤ n) (h2 : n ≤ 40) (h : Φ (webD (Wm n (dRing n)))) : A_ring_web [nD n] Φ := ⟨n, rfl, h1, h2, by rw [ring_Wm h1]; exact h⟩
theorem cl_row (h1 : 1 ≤ n) (h2 : n ≤ 40) (h : Φ (webD (Wm n dRow))) : A_row_web [nD n] Φ := ⟨n, rfl, h1, h2, by rw [row_Wm]; exact h⟩
theorem cl_full (h1 : 1 ≤ n) (h2 : n ≤ 40) (h : Φ (webD (Wm n dFull))) : A_full_web [nD n] Φ := ⟨n, rfl, h1, h2, by rw [full_Wm]; exact h⟩
theorem cl_sides {a b : Nat} (h1 : 1 ≤ a) (h2 : a ≤ 20) (h3 : 1 ≤ b) (h4 : b ≤ 20) (h : Φ (webD (Wm (a + b) (dSides a)))) : A_two_sided [nD a, nD b] Φ := ⟨a, b, rfl, h1, h2, h3, h4, by rw [sides_Wm]; exact h⟩
theorem cl_wheel (h1 : 4 ≤ n) (h2 : n ≤ 40) (h : Φ (webD (Wm n (dWheel n)))) : A_wheel [nD n] Φ := ⟨n, rfl, h1, h2, by rw [wheel_Wm]; exact h⟩
theorem cl_renamed (m : Met n δ) (h1 : 1 ≤ n) (h2 : n ≤ 40) {f : List Nat} (hf : Nm n f) (h : Φ (webD (Wm n (ren δ f)))) : A_renamed [webD (Wm n δ), .tuple (f.map nD)] Φ :=
  ⟨Wm n δ, f, rfl, Wm_ok δ h1 h2, hf, fun V hn ha hp => by rw [ren_web m h1 h2 hf hn ha hp]; exact h⟩
theorem cl_way (m : Met n δ) (h1 : 1 ≤ n) (h2 : n ≤ 40) {x y : Nat} (hx : x < n) (hy : y < n) (h : Φ (nD (δ x y))) : A_way [webD (Wm n δ), nD x, nD y] Φ :=
  ⟨Wm n δ, x, y, rfl, Wm_ok δ h1 h2, hx, hy, fun k hk => by rw [← ((m.dst h1 h2).mp hk).2.2]; exact h, fun hk => absurd ((m.dst h1 h2).mpr ⟨hx, hy, rfl⟩) (hk _)⟩
theorem cl_longest (m : Met n δ) (h1 : 1 ≤ n) (h2 : n ≤ 40) {L : Nat} (hL : ∃ x < n, ∃ y < n, δ x y = L) (hm : ∀ x < n, ∀ y < n, δ x y ≤ L) (h : Φ (nD L)) : A_longest_way [webD (Wm n δ)] Φ :=
  ⟨Wm n δ, rfl, Wm_ok δ h1 h2, m.joined h1 h2, fun k a b => by rw [m.longest h1 h2 hL hm a b]; exact h⟩
theorem cl_within (m : Met n δ) (h1 : 1 ≤ n) (h2 : n ≤ 40) {x k : Nat} (hx : x < n) (hk : k ≤ 40) (h : Φ (.tuple (((List.range n).filter fun y => decide (δ x y ≤ k)).map nD))) : A_within [webD (Wm n δ), nD x, nD k] Φ :=
  ⟨Wm n δ, x, k, rfl, Wm_ok δ h1 h2, hx, hk, fun zs hz hi => by
    rw [lt_unique hz ((range_lt n).filter fun y => decide (δ x y ≤ k)) fun y => ?_]
    · exact h
    · rw [hi, List.mem_filter, List.mem_range, decide_eq_true_eq]
      constructor
      · rintro ⟨j, hj, hd⟩
        obtain ⟨_, a, b⟩ := (m.dst h1 h2).mp hd
        exact ⟨a, by omega⟩
      · rintro ⟨a, b⟩
        exact ⟨_, b, (m.dst h1 h2).mpr ⟨hx, a, rfl⟩⟩⟩
theorem cl_power (m : Met n δ) (h1 : 1 ≤ n) (h2 : n ≤ 40) {k : Nat} (k1 : 1 ≤ k) (k2 : k ≤ 40) (h : Φ (webD (Wm n (cd δ k)))) : A_power [webD (Wm n δ), nD k] Φ :=
  ⟨Wm n δ, k, rfl, Wm_ok δ h1 h2, k1, k2, by rw [m.pow h1 h2 k1]; exact h⟩
theorem cl_is_power {n' : Nat} {ε : Nat → Nat → Nat} (m : Met n δ) (h1 : 1 ≤ n) (h2 : n ≤ 40) (h3 : 1 ≤ n') (h4 : n' ≤ 40) {k : Nat} (k1 : 1 ≤ k) (k2 : k ≤ 40) (h : ∀ b : Bool, (b = true ↔ Wm n (cd δ k) = Wm n' ε) → Φ (.bool b)) : A_is_power_of [webD (Wm n' ε), webD (Wm n δ), nD k] Φ :=
  ⟨Wm n' ε, Wm n δ, k, rfl, Wm_ok ε h3 h4, Wm_ok δ h1 h2, k1, k2, fun b hb => h b (by rw [m.pow h1 h2 k1] at hb; exact hb)⟩
theorem cl_hangs (m : Met n δ) (h1 : 1 ≤ n) (h2 : n ≤ 40) (h : Φ (.bool true)) : A_hangs_together [webD (Wm n δ)] Φ :=
  ⟨Wm n δ, rfl, Wm_ok δ h1 h2, fun b hb => by rw [hb.mpr (m.joined h1 h2)]; exact h⟩
end
/-! ### rings -/
theorem cd_max {n : Nat} {δ : Nat → Nat → Nat} {L k : Nat} (hk : 1 ≤ k) (hL : ∃ x < n, ∃ y < n, δ x y = L) (hm : ∀ x < n, ∀ y < n, δ x y ≤ L) : (∃ x < n, ∃ y < n, cd δ k x y = (L + k - 1) / k) ∧ ∀ x < n, ∀ y < n, cd δ k x y ≤ (L + k - 1) / k := by
  refine ⟨?_, fun x hx y hy => Nat.div_le_div_right (by have := hm x hx y hy; omega)⟩
  obtain ⟨x, hx, y, hy, e⟩ := hL
  exact ⟨x, hx, y, hy, by unfold cd; rw [e]⟩
theorem ren_max {n : Nat} {δ : Nat → Nat → Nat} {L : Nat} {f : List Nat} (hf : Nm n f) (hL : ∃ x < n, ∃ y < n, δ x y = L) (hm : ∀ x < n, ∀ y < n, δ x y ≤ L) : (∃ x < n, ∃ y < n, ren δ f x y = L) ∧ ∀ x < n, ∀ y < n, ren δ f x y ≤ L := by
  refine ⟨?_, fun x hx y hy => hm _ (iv_lt hf hx) _ (iv_lt hf hy)⟩
  obtain ⟨x, hx, y, hy, e⟩ := hL
  exact ⟨nm f x, nm_lt hf hx, nm f y, nm_lt hf hy, by unfold ren; rw [iv_nm hf hx, iv_nm hf hy, e]⟩
theorem ring_max {n : Nat} (hn : 3 ≤ n) : (∃ x < n, ∃ y < n, dRing n x y = n / 2) ∧ ∀ x < n, ∀ y < n, dRing n x y ≤ n / 2 := by
  refine ⟨⟨0, by omega, n / 2, by omega, ?_⟩, fun x hx y hy => ?_⟩ <;> simp only [dRing, ad] <;> omega
/-- as many places around each -/
theorem filter_len_map {n : Nat} {g : Nat → Nat} (hg : ∀ x < n, g x < n) (inj : ∀ x < n, ∀ y < n, g x = g y → x = y) (p : Nat → Bool) : ((List.range n).filter fun x => p (g x)).length = ((List.range n).filter p).length := by
  have pm : ((List.range n).map g).Perm (List.range n) := by
    have nd : ((List.range n).map g).Nodup := List.pairwise_map.mpr ((range_lt n).imp_of_mem fun {a b} ha hb hab e => by
      have := inj a (List.mem_range.mp ha) b (List.mem_range.mp hb) e; omega)
    refine (List.perm_ext_iff_of_nodup nd List.nodup_range).mpr fun y => ⟨fun hy => ?_, fun hy => ?_⟩
    · obtain ⟨x, hx, rfl⟩ := List.mem_map.mp hy
      exact List.mem_range.mpr (hg x (List.mem_range.mp hx))
    · by_cases hm : y ∈ (List.range n).map g
      · exact hm
      · exfalso
        have nd2 := List.nodup_cons.mpr ⟨hm, nd⟩
        have := nodup_len nd2 (n := n) fun z hz => by
          rcases List.mem_cons.mp hz with rfl | hz
          · exact List.mem_range.mp hy
          · obtain ⟨x, hx, rfl⟩ := List.mem_map.mp hz
            exact hg x (List.mem_range.mp hx)
        simp at this
        omega
  have := (pm.filter p).length_eq
  rw [← this, List.filter_map, List.length_map]
  rfl
theorem ren_filter {n : Nat} {δ : Nat → Nat → Nat} {f : List Nat} (hf : Nm n f) {x k : Nat} (hx : x < n) : ((List.range n).filter fun y => decide (ren δ f (nm f x) y ≤ k)).length = ((List.range n).filter fun y => decide (δ x y ≤ k)).length := by
  have := filter_len_map (n := n) (g := iv f) (fun x hx => iv_lt hf hx) (fun x hx y hy e => by rw [← nm_iv hf hx, ← nm_iv hf hy, e]) fun y => decide (δ x y ≤ k)
  rw [← this]
  unfold ren
  rw [iv_nm hf hx]
theorem ring_near {n f x : Nat} (hn : 3 ≤ n) (hn2 : n ≤ 40) (h1 : 1 ≤ f) (h2 : f ≤ 12) (hx : x < n) : ((List.range n).filter fun y => decide (dRing n x y ≤ f)).length = min n (2 * f + 1) := by
  have h0 := of_decide_eq_true (List.all_eq_true.mp (List.all_eq_true.mp ring_in n (List.mem_range.mpr (by omega))) f (List.mem_range.mpr (by omega)))
  have h0 := (h0.resolve_left (by omega)).resolve_left (by omega)
  rw [← h0]
  have := filter_len_map (n := n) (g := fun y => if x ≤ y then y - x else y + n - x) (fun y hy => by show (if x ≤ y then y - x else y + n - x) < n; split <;> omega) (fun y hy z hz e => by
    have e : (if x ≤ y then y - x else y + n - x) = (if x ≤ z then z - x else z + n - x) := e
    split at e <;> split at e <;> omega) fun y => decide (dRing n 0 y ≤ f)
  rw [← this]
  congr 1
  refine List.filter_congr fun y hy => ?_
  have hy := List.mem_range.mp hy
  have e : dRing n x y = dRing n 0 (if x ≤ y then y - x else y + n - x) := by
    simp only [dRing, ad]; split <;> omega
  rw [e]
theorem ring_cnt {n f : Nat} (hn : 3 ≤ n) (hn2 : n ≤ 40) (h1 : 1 ≤ f) (h2 : f ≤ 12) : (Wm n (cd (dRing n) f)).ts.length = if n ≤ 2 * f + 1 then n * (n - 1) / 2 else n * f := by
  have h0 := of_decide_eq_true (List.all_eq_true.mp (List.all_eq_true.mp ring_count n (List.mem_range.mpr (by omega))) f (List.mem_range.mpr (by omega)))
  exact (h0.resolve_left (by omega)).resolve_left (by omega)
theorem nD_eq {i : Int} {n : Nat} (h : i = n) : PyData.int i = nD n := by rw [h]
end Lp


set_option Elab.async false
set_option linter.all false
set_option maxRecDepth 100000
set_option maxHeartbeats 4000000
/-! Lp: k56, rings. -/
namespace Lp
open PySem PySem.Spec L2
local macro_rules | `(tactic| walk_at "e1") => `(tactic| first
  | (with_reducible refine y_seq ?_) | (with_reducible refine ev_var (by with_unfolding_all rfl) ?_) | (with_reducible refine ev_int ?_) | (with_reducible refine ev_bl ?_) | (with_reducible refine ev_non ?_) | (with_reducible refine ev_str ?_)
  | (with_reducible refine y_ret ?_) | (with_reducible refine y_retN ?_) | (with_reducible refine y_next ?_) | (with_reducible refine x_if ?_) | (with_reducible refine y_setM (em_call ?_)) | (with_reducible refine y_set ?_) | (with_reducible refine y_drop ?_)
  | (with_reducible refine eb_test ?_) | (with_reducible refine eb_B ?_) | (with_reducible refine eb_not ?_) | (with_reducible refine eb_and ?_) | (with_reducible refine eb_or ?_) | (with_reducible refine eb_yes ?_)
  | (with_reducible refine ev_and ?_) | (with_reducible refine ev_or ?_) | (with_reducible refine ev_not ?_) | (with_reducible refine ev_if ?_)
  | (with_reducible refine ev_I ?_) | (with_reducible refine ev_BI ?_) | (with_reducible refine ev_IC ?_) | (with_reducible refine ev_chainB ?_) | (with_reducible refine ev_un ?_)
  | (with_reducible refine ev_oixC (by with_unfolding_all rfl) (by with_unfolding_all rfl) (by with_unfolding_all rfl) ?_) | (with_reducible refine ev_ixL ?_) | (with_reducible refine ev_ixT ?_) | (with_reducible refine ev_isi ?_) | (with_reducible refine ev_isN ?_) | (with_reducible refine ev_notN ?_) | (with_reducible refine ev_isB ?_) | (with_reducible refine ev_notB ?_)
  | (with_reducible refine ev_eqG ?_) | (with_reducible refine ev_neG ?_) | (with_reducible refine ev_eqD ?_) | (with_reducible refine ev_neD ?_)
  | (with_reducible refine ev_slen (by with_unfolding_all rfl) ?_) | (with_reducible refine ev_olen (by with_unfolding_all rfl) ?_) | (with_reducible refine ev_len ?_) | (with_reducible refine ev_tup ?_) | (with_reducible refine ev_lst ?_) | (with_reducible refine ea_nil ?_) | (with_reducible refine ea_cons ?_) | (with_reducible refine ea_star ?_)
  | (with_reducible refine ev_call ?_) | (with_reducible refine em_call ?_) | (with_reducible refine em_var (by with_unfolding_all rfl) ?_) | (with_reducible refine ev_max2 ?_) | (with_reducible refine ev_min2 ?_) | (with_reducible refine ev_abs ?_)
  | (with_reducible refine ev_all ?_) | (with_reducible refine ev_any ?_) | (with_reducible refine ev_sum ?_) | (with_reducible refine ev_max ?_) | (with_reducible refine ev_min ?_) | (with_reducible refine ev_tupOf ?_)
  | (with_reducible refine ev_sortedI ?_) | (with_reducible refine ev_sortedP ?_) | (with_reducible refine ev_sortedD ?_) | (with_reducible refine ev_maxVals ?_) | (with_reducible refine ev_dget ?_) | (with_reducible refine ev_dget1 ?_) | (with_reducible refine ev_din ?_) | (with_reducible refine ev_dnotin ?_)
  | (with_reducible refine ev_slL ?_) | (with_reducible refine ev_slT ?_) | (with_reducible refine eo_none ?_) | (with_reducible refine eo_some ?_) | (with_reducible refine ev_cat ?_) | (with_reducible refine ev_ltT ?_) | (with_reducible refine ev_inI ?_)
  | (with_reducible refine ei_list ?_) | (with_reducible refine ei_tup ?_) | (with_reducible refine ei_rng1 ?_) | (with_reducible refine ei_rng2 ?_) | (with_reducible refine ei_zip ?_) | (with_reducible refine eg_name ?_) | (with_reducible refine eg_tup ?_) | (with_reducible refine egs_name ?_) | (with_reducible refine egs_nil ?_)
  | (with_reducible refine ev_int1 ?_) | (with_reducible refine ev_callP (by with_unfolding_all rfl) ?_) | (with_reducible refine x_never ?_))
local macro_rules | `(tactic| walk_at "e") => `(tactic| first | walk_at "e1" | exact ⟨_, _, rfl, rfl, rfl⟩ | (refine ⟨_, _, rfl, rfl, ?_⟩) | (refine ⟨_, rfl, ?_⟩))
local macro_rules | `(tactic| walk_at "go") => `(tactic| repeat walk_at "e1")
theorem len_ties {n : Nat} {δ : Nat → Nat → Nat} : ((Wm n δ).ts.map tD).length = (Wm n δ).ts.length := List.length_map _
theorem ev_ite {K : PySem.W.Frag} {b : Bool} {tA tB : TE} {Φ0 : Φd} {as : List Sl} (d : PyData) (h : Φ0 d as) (ha : b = true → ∀ Ψ : Φd, Ψ d as → Ev K tA as Ψ) (hb : b = false → ∀ Ψ : Φd, Ψ d as → Ev K tB as Ψ) : (b = true → Ev K tA as Φ0) ∧ (b = false → Ev K tB as Φ0) := ⟨fun z => ha z _ h, fun z => hb z _ h⟩
theorem eqSc_nD {n : Nat} {i : Int} (h : (n : Int) = i) : eqSc (nD n) (.int i) = some true := by
  show some _ = some _
  rw [decide_eq_true h]
def A__law_are_rings_right (ds : List PyData) (c : Nat) (Φ : PyData → Nat → Prop) : Prop := ds = [] ∧ c ≤ 10000 ∧ ∀ c', c' ≤ c + 100 → Φ (.bool true) c'
abbrev sp__law_are_rings_right : Sp := spP A__law_are_rings_right
def t__law_are_rings_right (K : PySem.W.Frag) : TS := (tSeq (tPar 1 2 (tCons (tOp (rI0 fun i j => .int (i + j)) (tC (.int 3)) (tCB rInt1 (tCons (tCall sp__law_take [] E0 (tCons (tVar 0) (tCons (tC (.int 38)) tNil))) tNil))) (tCons (tOp (rI0 fun i j => .int (i + j)) (tC (.int 1)) (tCB rInt1 (tCons (tCall sp__law_take [] E0 (tCons (tVar 0) (tCons (tC (.int 12)) tNil))) tNil))) tNil))) (tSeq (tPar 3 4 (tCons (tCall sp_ring_web [] E0 (tCons (tVar 1) tNil)) (tCons (tCall sp__law_names [] E0 (tCons (tVar 0) (tCons (tVar 1) tNil))) tNil))) (tSeq (tAsg (tCall sp_renamed [] E0 (tCons (tVar 3) (tCons (tVar 4) tNil))) (gName 5)) (tSeq (tPar 6 7 (tCons (tCB rInt1 (tCons (tCall sp__law_take [] E0 (tCons (tVar 0) (tCons (tVar 1) tNil))) tNil)) (tCons (tCB rInt1 (tCons (tCall sp__law_take [] E0 (tCons (tVar 0) (tCons (tVar 1) tNil))) tNil)) tNil))) (tSeq (tAsg (tOp (rI (fun _ j => 0 < j) fun i j => .int (i % j)) (tOp (rI0 fun i j => .int (i - j)) (tVar 6) (tVar 7)) (tVar 1)) (gName 8)) (tSeq (tIfS (tOr (tTest (tOp rNe (tCall sp_way [] E0 (tCons (tVar 5) (tCons (tOp (rIxT K) (tVar 4) (tVar 6)) (tCons (tOp (rIxT K) (tVar 4) (tVar 7)) tNil)))) (tCB rMin2 (tCons (tVar 8) (tCons (tOp (rI0 fun i j => .int (i - j)) (tVar 1) (tVar 8)) tNil))))) (tTest (tOp rNe (tCall sp_longest_way [] E0 (tCons (tVar 5) tNil)) (tOp (rI CDiv fun i j => .int (i / j)) (tVar 1) (tC (.int 2)))))) (tRet (tC (.bl false))) tNext) (tSeq (tIfS (tTest (tOp rNe (tCB (rLenS K) (tCons (tCall sp_within [] E0 (tCons (tVar 5) (tCons (tOp (rIxT K) (tVar 4) (tVar 6)) (tCons (tVar 2) tNil)))) tNil)) (tCB rMin2 (tCons (tVar 1) (tCons (tOp (rI0 fun i j => .int (i + j)) (tOp (rI CMul fun i j => .int (i * j)) (tC (.int 2)) (tVar 2)) (tC (.int 1))) tNil))))) (tRet (tC (.bl false))) tNext) (tSeq (tAsg (tCall sp_power [] E0 (tCons (tVar 3) (tCons (tVar 2) tNil))) (gName 9)) (tSeq (tAsg (tIf (tTest (tOp (rI0 fun i j => .bl (decide (i ≤ j))) (tVar 1) (tOp (rI0 fun i j => .int (i + j)) (tOp (rI CMul fun i j => .int (i * j)) (tC (.int 2)) (tVar 2)) (tC (.int 1))))) (tOp (rI CDiv fun i j => .int (i / j)) (tOp (rI CMul fun i j => .int (i * j)) (tVar 1) (tOp (rI0 fun i j => .int (i - j)) (tVar 1) (tC (.int 1)))) (tC (.int 2))) (tOp (rI CMul fun i j => .int (i * j)) (tVar 1) (tVar 2))) (gName 10)) (tSeq (tIfS (tOr (tTest (tOp rNe (tCB (rLenS K) (tCons (tOp (rIxT K) (tVar 9) (tC (.int 1))) tNil)) (tVar 10))) (tOr (tTest (tOp rNe (tCall sp_longest_way [] E0 (tCons (tVar 9) tNil)) (tOp (rI CDiv fun i j => .int (i / j)) (tOp (rI0 fun i j => .int (i - j)) (tOp (rI0 fun i j => .int (i + j)) (tOp (rI CDiv fun i j => .int (i / j)) (tVar 1) (tC (.int 2))) (tVar 2)) (tC (.int 1))) (tVar 2)))) (tTest (tOp (rNeD K) (tCall sp_power [] E0 (tCons (tVar 5) (tCons (tVar 2) tNil))) (tCall sp_renamed [] E0 (tCons (tVar 9) (tCons (tVar 4) tNil))))))) (tRet (tC (.bl false))) tNext) (tRet (tIf (tTest (tOp (rI0 fun i j => .bl (decide (i ≤ j))) (tOp (rI CMul fun i j => .int (i * j)) (tC (.int 2)) (tVar 2)) (tC (.int 40)))) (tOp (rEqD K) (tCall sp_power [] E0 (tCons (tCall sp_power [] E0 (tCons (tVar 3) (tCons (tC (.int 2)) tNil))) (tCons (tVar 2) tNil))) (tCall sp_power [] E0 (tCons (tVar 3) (tCons (tOp (rI CMul fun i j => .int (i * j)) (tC (.int 2)) (tVar 2)) tNil)))) (tC (.bl true))))))))))))))
def N__law_are_rings_right : List Str := ["pot", "many", "far", "ring", "names", "late", "one", "other", "gap", "made", "due"]
theorem len__law_are_rings_right : ∀ vs H Q E, sp__law_are_rings_right vs H Q E → vs.length = (["pot"] : List Str).length := lenP fun ds c Φ h => by
  obtain ⟨rfl, hc, h⟩ := h; rfl
theorem rd__law_are_rings_right {K : PySem.W.Frag} : ∀ vs H Q E, sp__law_are_rings_right vs H Q E → t__law_are_rings_right K { nx := fun _ H' => Q .non H', rt := Q } (L2.start N__law_are_rings_right vs) H := rd_P fun p ds c Φ h => by
  obtain ⟨rfl, hc, h⟩ := h
  show Ex K _ _ [.o p (.pot c), .e, .e, .e, .e, .e, .e, .e, .e, .e, .e]
  unfold t__law_are_rings_right
  refine y_seq (y_par ?_)
  walk_at "go"
  refine ⟨c, rfl, 38, rfl, by omega, by omega, by omega, fun r1 hr1 => ?_⟩
  walk_at "go"
  refine ⟨_, rfl, _, _, rfl, rfl, ?_⟩
  walk_at "go"
  refine ⟨c + 1, rfl, 12, rfl, by omega, by omega, by omega, fun r2 hr2 => ?_⟩
  walk_at "go"
  refine ⟨_, rfl, _, _, rfl, rfl, ?_⟩
  walk_at "go"
  refine ⟨_, _, rfl, ?_⟩
  rw [nD_eq (i := 3 + (r1 : Int)) (n := 3 + r1) (by omega), nD_eq (i := 1 + (r2 : Int)) (n := 1 + r2) (by omega)]
  obtain ⟨n, hn, n1, n2⟩ : ∃ n, 3 + r1 = n ∧ 3 ≤ n ∧ n ≤ 40 := ⟨_, rfl, by omega, by omega⟩
  obtain ⟨f, hf, f1, f2⟩ : ∃ f, 1 + r2 = f ∧ 1 ≤ f ∧ f ≤ 12 := ⟨_, rfl, by omega, by omega⟩
  rw [hn, hf]
  have M0 := met_ring n1
  have nn : 1 ≤ n := by omega
  refine y_seq (y_par ?_)
  walk_at "go"
  refine cl_ring n1 n2 ?_
  walk_at "go"
  refine ⟨c + 1 + 1, rfl, n, rfl, by omega, by omega, fun g hg => ?_⟩
  walk_at "go"
  refine ⟨_, _, rfl, ?_⟩
  walk_at "go"
  refine cl_renamed M0 nn n2 hg ?_
  have M1 := M0.ren hg
  refine y_seq (y_par ?_)
  walk_at "go"
  refine ⟨c + 1 + 1 + n, rfl, n, rfl, by omega, by omega, by omega, fun x hx => ?_⟩
  walk_at "go"
  refine ⟨_, rfl, ?_⟩
  walk_at "go"
  refine ⟨c + 1 + 1 + n + 1, rfl, n, rfl, by omega, by omega, by omega, fun y hy => ?_⟩
  walk_at "go"
  refine ⟨_, rfl, ?_⟩
  walk_at "go"
  refine ⟨_, _, rfl, ?_⟩
  have gx : atI (g.map nD) (x : Int) = some (nD (nm g x)) := nm_at (by rw [hg.len]; exact hx)
  have gy : atI (g.map nD) (y : Int) = some (nD (nm g y)) := nm_at (by rw [hg.len]; exact hy)
  walk_at "go"
  refine ⟨_, _, rfl, rfl, ?_⟩
  walk_at "go"
  refine ⟨_, _, rfl, rfl, by omega, ?_⟩
  obtain ⟨gap, hgap, eg⟩ := mod_nat (i := (x : Int) - (y : Int)) nn
  have egap : gap = if y ≤ x then x - y else x + n - y := by
    split
    · have : (x : Int) - (y : Int) = ((x - y : Nat) : Int) := by omega
      rw [this] at eg
      have h2 := Int.emod_eq_of_lt (a := ((x - y : Nat) : Int)) (b := (n : Int)) (by omega) (by omega)
      omega
    · have h3 : ((x : Int) - (y : Int)) % (n : Int) = ((x : Int) - (y : Int) + n) % (n : Int) := by rw [Int.add_emod_right]
      have : (x : Int) - (y : Int) + n = ((x + n - y : Nat) : Int) := by omega
      rw [h3, this] at eg
      have h2 := Int.emod_eq_of_lt (a := ((x + n - y : Nat) : Int)) (b := (n : Int)) (by omega) (by omega)
      omega
  rw [eg]
  walk_at "go"
  refine ⟨_, _, _, rfl, rfl, gx, ?_⟩
  walk_at "go"
  refine ⟨_, _, _, rfl, rfl, gy, ?_⟩
  walk_at "go"
  refine cl_way M1 nn n2 (nm_lt hg hx) (nm_lt hg hy) ?_
  have eway : ren (dRing n) g (nm g x) (nm g y) = min gap (n - gap) := by
    unfold ren
    rw [iv_nm hg hx, iv_nm hg hy, egap]
    simp only [dRing, ad]
    split <;> omega
  rw [eway]
  walk_at "go"
  refine ⟨_, _, rfl, rfl, ?_⟩
  walk_at "go"
  refine ⟨_, _, rfl, ?_⟩
  have e1 : eqSc (nD (min gap (n - gap))) (.int (min (gap : Int) ((n : Int) - (gap : Int)))) = some true := by
    show some _ = some _
    rw [decide_eq_true (by omega)]
  refine ⟨_, e1, _, rfl, fun _ => ?_, nofun⟩
  walk_at "go"
  obtain ⟨m1, m2⟩ := ring_max n1
  obtain ⟨m3, m4⟩ := ren_max hg m1 m2
  refine cl_longest M1 nn n2 m3 m4 ?_
  walk_at "go"
  refine ⟨_, _, rfl, rfl, ⟨by decide, by decide⟩, ?_⟩
  have e2 : eqSc (nD (n / 2)) (.int ((n : Int) / 2)) = some true := by
    show some _ = some _
    rw [decide_eq_true (by omega)]
  refine ⟨_, e2, _, rfl, nofun, fun _ => ?_⟩
  walk_at "go"
  refine ⟨_, _, _, rfl, rfl, gx, ?_⟩
  walk_at "go"
  refine cl_within M1 nn n2 (nm_lt hg hx) (by omega) ?_
  walk_at "go"
  refine ⟨_, _, rfl, rfl, ?_⟩
  rw [List.length_map, ren_filter hg hx, ring_near n1 n2 f1 f2 hx]
  walk_at "go"
  refine ⟨_, _, rfl, rfl, .inl ⟨by omega, by omega⟩, ?_⟩
  walk_at "go"
  refine ⟨_, _, rfl, rfl, ?_⟩
  walk_at "go"
  refine ⟨_, _, rfl, ?_⟩
  have e3 : eqSc (nD (min n (2 * f + 1))) (.int (min (n : Int) (2 * (f : Int) + 1))) = some true := by
    show some _ = some _
    rw [decide_eq_true (by omega)]
  refine ⟨_, e3, _, rfl, nofun, fun _ => ?_⟩
  walk_at "go"
  refine cl_power M0 nn n2 f1 (by omega) ?_
  have M2 := M0.cd f1
  refine y_seq (y_set (ev_if ?_))
  walk_at "go"
  refine ⟨_, _, rfl, rfl, .inl ⟨by omega, by omega⟩, ?_⟩
  walk_at "go"
  refine ⟨_, _, rfl, rfl, ?_⟩
  refine ⟨_, _, rfl, rfl, _, rfl, ?_⟩
  have cnt := ring_cnt n1 n2 f1 f2
  obtain ⟨due, edue, hdue⟩ : ∃ due : Nat, due = (if n ≤ 2 * f + 1 then n * (n - 1) / 2 else n * f) ∧ (Wm n (cd (dRing n) f)).ts.length = due := ⟨_, rfl, cnt⟩
  refine ev_ite (nD due) ?_ (fun hb Ψ hΨ => ?_) (fun hb Ψ hΨ => ?_)
  rotate_left
  · have hb := of_decide_eq_true hb
    walk_at "go"
    refine ⟨_, _, rfl, rfl, ?_⟩
    refine ⟨_, _, rfl, rfl, .inl ⟨by omega, by omega⟩, ?_⟩
    walk_at "go"
    refine ⟨_, _, rfl, rfl, ⟨by decide, by decide⟩, ?_⟩
    rw [if_pos (by omega)] at edue
    have e : (n : Int) * ((n : Int) - 1) = ((n * (n - 1) : Nat) : Int) := by
      rw [Int.natCast_mul, Int.natCast_sub (by omega)]; rfl
    rw [e, nD_eq (n := due) (by rw [edue]; omega)]
    exact hΨ
  · have hb := of_decide_eq_false hb
    walk_at "go"
    refine ⟨_, _, rfl, rfl, .inl ⟨by omega, by omega⟩, ?_⟩
    rw [if_neg (by omega)] at edue
    rw [nD_eq (n := due) (by rw [edue, Int.natCast_mul])]
    exact hΨ
  walk_at "go"
  refine ⟨_, 1, _, rfl, rfl, rfl, ?_⟩
  walk_at "go"
  refine ⟨_, _, rfl, rfl, ?_⟩
  rw [len_ties, hdue]
  walk_at "go"
  refine ⟨_, eqSc_nD rfl, _, rfl, fun _ => ?_, nofun⟩
  walk_at "go"
  obtain ⟨m5, m6⟩ := cd_max f1 m1 m2
  refine cl_longest M2 nn n2 m5 m6 ?_
  walk_at "go"
  refine ⟨_, _, rfl, rfl, ⟨by decide, by decide⟩, ?_⟩
  walk_at "go"
  refine ⟨_, _, rfl, rfl, ?_⟩
  walk_at "go"
  refine ⟨_, _, rfl, rfl, ?_⟩
  walk_at "go"
  refine ⟨_, _, rfl, rfl, ⟨by omega, by omega⟩, ?_⟩
  refine ⟨_, eqSc_nD ?_, _, rfl, fun _ => ?_, nofun⟩
  · rw [show (n : Int) / 2 + (f : Int) - 1 = ((n / 2 + f - 1 : Nat) : Int) by omega]
    exact Int.natCast_ediv _ _
  walk_at "go"
  refine cl_power M1 nn n2 f1 (by omega) ?_
  walk_at "go"
  refine cl_renamed M2 nn n2 hg ?_
  have eT : ∀ W : Web, PyData.eqv (webD W) (webD W) = true := fun W => (eqv_webD W W).mpr rfl
  refine ⟨(shp_webD _).ok, (shp_webD _).ok, _, rfl, ?_⟩
  rw [show Wm n (ren (cd (dRing n) f) g) = Wm n (cd (ren (dRing n) g) f) from rfl, eT]
  refine ⟨nofun, fun _ => ?_⟩
  walk_at "go"
  refine ⟨_, _, rfl, rfl, .inl ⟨by omega, by omega⟩, ?_⟩
  walk_at "go"
  refine ⟨_, _, rfl, rfl, _, rfl, fun hb => ?_, fun hb => absurd (of_decide_eq_false hb) (by omega)⟩
  walk_at "go"
  refine cl_power M0 nn n2 (k := 2) (by omega) (by omega) ?_
  walk_at "go"
  refine cl_power (M0.cd (by omega)) nn n2 f1 (by omega) ?_
  walk_at "go"
  refine ⟨_, _, rfl, rfl, .inl ⟨by omega, by omega⟩, ?_⟩
  walk_at "go"
  rw [nD_eq (i := 2 * (f : Int)) (n := 2 * f) (by omega)]
  refine cl_power M0 nn n2 (by omega) (by omega) ?_
  refine ⟨(shp_webD _).ok, (shp_webD _).ok, ?_⟩
  rw [show Wm n (cd (cd (dRing n) 2) f) = Wm n (cd (dRing n) (2 * f)) from Wm_ext fun x y _ _ => cd_cd 2 f (by omega) f1, eT]
  exact ⟨_, rfl, h _ (by omega)⟩
end Lp


set_option Elab.async false
set_option linter.all false
set_option maxRecDepth 100000
set_option maxHeartbeats 4000000
/-! Lp: k56, rows. -/
namespace Lp
open PySem PySem.Spec L2
local macro_rules | `(tactic| walk_at "e1") => `(tactic| first
  | (with_reducible refine y_seq ?_) | (with_reducible refine ev_var (by with_unfolding_all rfl) ?_) | (with_reducible refine ev_int ?_) | (with_reducible refine ev_bl ?_) | (with_reducible refine ev_non ?_) | (with_reducible refine ev_str ?_)
  | (with_reducible refine y_ret ?_) | (with_reducible refine y_retN ?_) | (with_reducible refine y_next ?_) | (with_reducible refine x_if ?_) | (with_reducible refine y_setM (em_call ?_)) | (with_reducible refine y_set ?_) | (with_reducible refine y_drop ?_)
  | (with_reducible refine eb_test ?_) | (with_reducible refine eb_B ?_) | (with_reducible refine eb_not ?_) | (with_reducible refine eb_and ?_) | (with_reducible refine eb_or ?_) | (with_reducible refine eb_yes ?_)
  | (with_reducible refine ev_and ?_) | (with_reducible refine ev_or ?_) | (with_reducible refine ev_not ?_) | (with_reducible refine ev_if ?_)
  | (with_reducible refine ev_I ?_) | (with_reducible refine ev_BI ?_) | (with_reducible refine ev_IC ?_) | (with_reducible refine ev_chainB ?_) | (with_reducible refine ev_un ?_)
  | (with_reducible refine ev_oixC (by with_unfolding_all rfl) (by with_unfolding_all rfl) (by with_unfolding_all rfl) ?_) | (with_reducible refine ev_ixL ?_) | (with_reducible refine ev_ixT ?_) | (with_reducible refine ev_isi ?_) | (with_reducible refine ev_isN ?_) | (with_reducible refine ev_notN ?_) | (with_reducible refine ev_isB ?_) | (with_reducible refine ev_notB ?_)
  | (with_reducible refine ev_eqG ?_) | (with_reducible refine ev_neG ?_) | (with_reducible refine ev_eqD ?_) | (with_reducible refine ev_neD ?_)
  | (with_reducible refine ev_slen (by with_unfolding_all rfl) ?_) | (with_reducible refine ev_olen (by with_unfolding_all rfl) ?_) | (with_reducible refine ev_len ?_) | (with_reducible refine ev_tup ?_) | (with_reducible refine ev_lst ?_) | (with_reducible refine ea_nil ?_) | (with_reducible refine ea_cons ?_) | (with_reducible refine ea_star ?_)
  | (with_reducible refine ev_call ?_) | (with_reducible refine em_call ?_) | (with_reducible refine em_var (by with_unfolding_all rfl) ?_) | (with_reducible refine ev_max2 ?_) | (with_reducible refine ev_min2 ?_) | (with_reducible refine ev_abs ?_)
  | (with_reducible refine ev_all ?_) | (with_reducible refine ev_any ?_) | (with_reducible refine ev_sum ?_) | (with_reducible refine ev_max ?_) | (with_reducible refine ev_min ?_) | (with_reducible refine ev_tupOf ?_)
  | (with_reducible refine ev_sortedI ?_) | (with_reducible refine ev_sortedP ?_) | (with_reducible refine ev_sortedD ?_) | (with_reducible refine ev_maxVals ?_) | (with_reducible refine ev_dget ?_) | (with_reducible refine ev_dget1 ?_) | (with_reducible refine ev_din ?_) | (with_reducible refine ev_dnotin ?_)
  | (with_reducible refine ev_slL ?_) | (with_reducible refine ev_slT ?_) | (with_reducible refine eo_none ?_) | (with_reducible refine eo_some ?_) | (with_reducible refine ev_cat ?_) | (with_reducible refine ev_ltT ?_) | (with_reducible refine ev_inI ?_)
  | (with_reducible refine ei_list ?_) | (with_reducible refine ei_tup ?_) | (with_reducible refine ei_rng1 ?_) | (with_reducible refine ei_rng2 ?_) | (with_reducible refine ei_zip ?_) | (with_reducible refine eg_name ?_) | (with_reducible refine eg_tup ?_) | (with_reducible refine egs_name ?_) | (with_reducible refine egs_nil ?_)
  | (with_reducible refine ev_int1 ?_) | (with_reducible refine ev_callP (by with_unfolding_all rfl) ?_) | (with_reducible refine x_never ?_))
local macro_rules | `(tactic| walk_at "e") => `(tactic| first | walk_at "e1" | exact ⟨_, _, rfl, rfl, rfl⟩ | (refine ⟨_, _, rfl, rfl, ?_⟩) | (refine ⟨_, rfl, ?_⟩))
local macro_rules | `(tactic| walk_at "go") => `(tactic| repeat walk_at "e1")
local macro_rules | `(tactic| walk_at "n") => `(tactic| simp only [List.set_cons_zero, List.set_cons_succ])
theorem row_max {n : Nat} (hn : 1 ≤ n) : (∃ x < n, ∃ y < n, dRow x y = n - 1) ∧ ∀ x < n, ∀ y < n, dRow x y ≤ n - 1 := by
  refine ⟨⟨0, by omega, n - 1, by omega, ?_⟩, fun x hx y hy => ?_⟩ <;> simp only [dRow, ad] <;> omega
theorem row_ties (n : Nat) (h : 1 ≤ n) : (Wm n dRow).ts.length = n - 1 := by
  rw [← row_Wm, row_list h]; simp
theorem ren_tree {n : Nat} {g : List Nat} (h1 : 1 ≤ n) (h2 : n ≤ 40) (hg : Nm n g) : (Wm n (ren dRow g)).tree :=
  ⟨by rw [ren_len (met_row n) h1 h2 hg, row_ties n h1]; show n - 1 + 1 = n; omega, ((met_row n).ren hg).joined h1 h2⟩
theorem row_ecc {n : Nat} {g : List Nat} (h1 : 1 ≤ n) (h2 : n ≤ 40) (hg : Nm n g) {x : Nat} (hx : x < n) : ecc (Wm n (ren dRow g)).near x = max (iv g x) (n - 1 - iv g x) := by
  have hi := iv_lt hg hx
  refine ((met_row n).ren hg).ecc h1 h2 hx ?_ ?_
  · by_cases h : n - 1 ≤ 2 * iv g x
    · exact ⟨nm g 0, nm_lt hg (by omega), by unfold ren; rw [iv_nm hg (by omega)]; simp only [dRow, ad]; omega⟩
    · exact ⟨nm g (n - 1), nm_lt hg (by omega), by unfold ren; rw [iv_nm hg (by omega)]; simp only [dRow, ad]; omega⟩
  · intro y hy
    have := iv_lt hg hy
    unfold ren
    simp only [dRow, ad]; omega
theorem cl_middle_row {n : Nat} {g : List Nat} {Φ : PyData → Prop} (h1 : 1 ≤ n) (h2 : n ≤ 40) (hg : Nm n g) (h : Φ (.tuple (((List.range n).filter fun x => decide (iv g x = (n - 1) / 2 ∨ iv g x = n / 2)).map nD))) : A_middle [webD (Wm n (ren dRow g))] Φ := by
  refine ⟨Wm n (ren dRow g), rfl, Wm_ok _ h1 h2, ren_tree h1 h2 hg, fun m a b => ?_⟩
  have hm : m = n / 2 := by
    refine Nat.le_antisymm ?_ ?_
    · have := b (nm g (n / 2)) (nm_lt hg (by omega))
      rw [row_ecc h1 h2 hg (nm_lt hg (by omega)), iv_nm hg (by omega)] at this
      omega
    · obtain ⟨x, hx, e⟩ := a
      rw [row_ecc h1 h2 hg hx] at e
      omega
  have : ((List.range (Wm n (ren dRow g)).n).filter fun x => decide (ecc (Wm n (ren dRow g)).near x = m)) = (List.range n).filter fun x => decide (iv g x = (n - 1) / 2 ∨ iv g x = n / 2) := by
    show ((List.range n).filter _) = _
    refine List.filter_congr fun x hx => ?_
    have hx := List.mem_range.mp hx
    have hi := iv_lt hg hx
    rw [row_ecc h1 h2 hg hx, hm]
    refine decide_eq_decide.mpr ?_
    omega
  rw [this]
  exact h
theorem sum_cast {α : Type} (xs : List α) (g : α → Nat) : (xs.map fun x => ((g x : Nat) : Int)).sum = (((xs.map g).sum : Nat) : Int) := by
  induction xs with
  | nil => rfl
  | cons x xs ih => simp only [List.map_cons, List.sum_cons, ih]; omega
theorem row_cnt {n f : Nat} {g : List Nat} (hn : 2 ≤ n) (hn2 : n ≤ 40) (h1 : 1 ≤ f) (h2 : f ≤ 11) (hg : Nm n g) : (Wm n (cd (ren dRow g) f)).ts.length = ((List.range f).map fun g => n - (g + 1)).sum := by
  have h0 := of_decide_eq_true (List.all_eq_true.mp (List.all_eq_true.mp row_count n (List.mem_range.mpr (by omega))) f (List.mem_range.mpr (by omega)))
  rw [← (h0.resolve_left (by omega)).resolve_left (by omega)]
  exact ren_len ((met_row n).cd h1) (by omega) hn2 hg
theorem row_pow {n f : Nat} {g : List Nat} (hn : 2 ≤ n) (h1 : 1 ≤ f) (hg : Nm n g) : Wm n (cd (ren dRow g) (f + 1)) = Wm n (cd (ren dRow g) f) ↔ n - 1 ≤ f := by
  have hb : ∀ x y, x < n → y < n → ren dRow g x y ≤ n - 1 := fun x y hx hy => by
    have := iv_lt hg hx; have := iv_lt hg hy
    unfold ren; simp only [dRow, ad]; omega
  constructor
  · intro e
    by_cases h : n - 1 ≤ f
    · exact h
    · exfalso
      have hx := nm_lt hg (x := 0) (by omega)
      have hy := nm_lt hg (x := f + 1) (by omega)
      have ne : nm g 0 ≠ nm g (f + 1) := fun z => by have := nm_inj hg (by omega) (by omega) z; omega
      have e1 : ren dRow g (nm g 0) (nm g (f + 1)) = f + 1 := by
        unfold ren; rw [iv_nm hg (by omega), iv_nm hg (by omega)]; simp only [dRow, ad]; omega
      have e2 : ren dRow g (nm g (f + 1)) (nm g 0) = f + 1 := by
        unfold ren; rw [iv_nm hg (by omega), iv_nm hg (by omega)]; simp only [dRow, ad]; omega
      have key : ∀ x y, x < y → y < n → ren dRow g x y = f + 1 → False := fun x y hxy hyn hr => by
        have : (x, y) ∈ (Wm n (cd (ren dRow g) (f + 1))).ts := mem_Wm.mpr ⟨hxy, hyn, (cd_one (by omega)).mpr ⟨by simp only; omega, by simp only; omega⟩⟩
        rw [e] at this
        have := (cd_one h1).mp (mem_Wm.mp this).2.2
        simp only at this
        omega
      rcases Nat.lt_or_gt_of_ne ne with z | z
      · exact key _ _ z hy e1
      · exact key _ _ z hx e2
  · intro h
    refine Wm_ext fun x y hxy hy => ?_
    have := hb x y (by omega) hy
    unfold cd
    rw [cd_one (by omega), cd_one h1]
    omega
theorem pow_one {n : Nat} {δ : Nat → Nat → Nat} : Wm n (cd δ 1) = Wm n δ := Wm_ext fun x y _ _ => by unfold cd; rw [cd_one (by omega)]; omega
theorem pow_full {n k : Nat} {δ : Nat → Nat → Nat} (m : Met n δ) (hk : 1 ≤ k) (h : ∀ x < n, ∀ y < n, δ x y ≤ k) : Wm n (cd δ k) = Wm n dFull := Wm_ext fun x y hxy hy => by
  have h1 := h x (by omega) y hy
  have h2 : δ x y ≠ 0 := fun z => by have := m.pos x y (by omega) hy z; omega
  unfold cd
  rw [cd_one hk]
  simp only [dFull]
  rw [if_neg (by omega)]
  omega
theorem eqT (W : Web) : PyData.eqv (webD W) (webD W) = true := (eqv_webD W W).mpr rfl
theorem lt_unique_int {xs ys : List Int} (hx : xs.Pairwise (· < ·)) (hy : ys.Pairwise (· < ·)) (h : ∀ z, z ∈ xs ↔ z ∈ ys) : xs = ys :=
  List.Perm.eq_of_pairwise (le := (· < ·)) (fun a b _ _ h1 h2 => absurd h1 (by omega)) hx hy ((List.perm_ext_iff_of_nodup (hx.imp fun h => by omega) (hy.imp fun h => by omega)).mpr h)
theorem nat_lt_int {xs : List Nat} (h : xs.Pairwise (· < ·)) : (xs.map Int.ofNat).Pairwise (· < ·) := List.pairwise_map.mpr (h.imp fun {a b} h => by show (a : Int) < (b : Int); omega)
theorem shp_row (xs : List Nat) : Shp 2 (.tuple (xs.map nD)) := Shp.tuple (shp_nats xs)
theorem eqv_row (xs ys : List Nat) : PyData.eqv (.tuple (xs.map nD)) (.tuple (ys.map nD)) = true ↔ xs = ys := by rw [eqv_tuple]; exact eqv_map eqv_nD xs ys
def A__law_are_rows_right (ds : List PyData) (c : Nat) (Φ : PyData → Nat → Prop) : Prop := ds = [] ∧ c ≤ 10000 ∧ ∀ c', c' ≤ c + 100 → Φ (.bool true) c'
abbrev sp__law_are_rows_right : Sp := spP A__law_are_rows_right
def t__law_are_rows_right (K : PySem.W.Frag) (w : World) : TS := (tSeq (tAsg (tTup (tCons (tOp (rI0 fun i j => .int (i + j)) (tC (.int 2)) (tCB rInt1 (tCons (tCall sp__law_take [] E0 (tCons (tVar 0) (tCons (tC (.int 39)) tNil))) tNil))) (tCons (tOp (rI0 fun i j => .int (i + j)) (tC (.int 1)) (tCB rInt1 (tCons (tCall sp__law_take [] E0 (tCons (tVar 0) (tCons (tC (.int 10)) tNil))) tNil))) tNil))) (gTup K 2 (gCons (gName 1) (gCons (gName 2) gNil)))) (tSeq (tPar 3 4 (tCons (tCall sp_row_web [] E0 (tCons (tVar 1) tNil)) (tCons (tCall sp__law_names [] E0 (tCons (tVar 0) (tCons (tVar 1) tNil))) tNil))) (tSeq (tAsg (tCall sp_renamed [] E0 (tCons (tVar 3) (tCons (tVar 4) tNil))) (gName 5)) (tSeq (tIfS (tOr (tTest (tOp rNe (tCall sp_longest_way [] E0 (tCons (tVar 5) tNil)) (tOp (rI0 fun i j => .int (i - j)) (tVar 1) (tC (.int 1))))) (tTest (tOp (rNeD K) (tCall sp_middle [] E0 (tCons (tVar 5) tNil)) (tCB (rTupOf K) (tCons (tCB (rSortedSet w) (tCons (tCB (rSetOfL K w) (tCons (tLst (tCons (tOp (rIxT K) (tVar 4) (tOp (rI CDiv fun i j => .int (i / j)) (tOp (rI0 fun i j => .int (i - j)) (tVar 1) (tC (.int 1))) (tC (.int 2)))) (tCons (tOp (rIxT K) (tVar 4) (tOp (rI CDiv fun i j => .int (i / j)) (tVar 1) (tC (.int 2)))) tNil))) tNil)) tNil)) tNil))))) (tRet (tC (.bl false))) tNext) (tSeq (tAsg (tCall sp_power [] E0 (tCons (tVar 5) (tCons (tVar 2) tNil))) (gName 6)) (tSeq (tAsg (tCB (rSum K) (tCons (tLc (iRng2 (tCons (tC (.int 1)) (tCons (tOp (rI0 fun i j => .int (i + j)) (tVar 2) (tC (.int 1))) tNil))) (gName 8) tYes (tCB rMax2 (tCons (tC (.int 0)) (tCons (tOp (rI0 fun i j => .int (i - j)) (tVar 1) (tVar 8)) tNil))) [8]) tNil)) (gName 7)) (tSeq (tIfS (tOr (tTest (tOp rNe (tCB (rLenS K) (tCons (tOp (rIxT K) (tVar 6) (tC (.int 1))) tNil)) (tVar 7))) (tTest (tOp rNe (tCall sp_longest_way [] E0 (tCons (tVar 6) tNil)) (tOp (rI CDiv fun i j => .int (i / j)) (tOp (rI0 fun i j => .int (i - j)) (tOp (rI0 fun i j => .int (i + j)) (tOp (rI0 fun i j => .int (i - j)) (tVar 1) (tC (.int 1))) (tVar 2)) (tC (.int 1))) (tVar 2))))) (tRet (tC (.bl false))) tNext) (tSeq (tIfS (tOr (tTest (tOp rNotB (tCall sp_is_power_of [] E0 (tCons (tVar 6) (tCons (tVar 5) (tCons (tVar 2) tNil)))) (tC (.bl true)))) (tOr (tTest (tOp rNe (tCall sp_is_power_of [] E0 (tCons (tVar 6) (tCons (tVar 5) (tCons (tOp (rI0 fun i j => .int (i + j)) (tVar 2) (tC (.int 1))) tNil)))) (tOp (rI0 fun i j => .bl (decide (i ≤ j))) (tOp (rI0 fun i j => .int (i - j)) (tVar 1) (tC (.int 1))) (tVar 2)))) (tTest (tOp rNotB (tCall sp_is_power_of [] E0 (tCons (tVar 5) (tCons (tVar 5) (tCons (tC (.int 1)) tNil)))) (tC (.bl true)))))) (tRet (tC (.bl false))) tNext) (tRet (tAndV (tOp rIsB (tCall sp_hangs_together [] E0 (tCons (tVar 6) tNil)) (tC (.bl true))) (tOp (rEqD K) (tCall sp_power [] E0 (tCons (tVar 5) (tCons (tCB rMin2 (tCons (tC (.int 40)) (tCons (tVar 1) tNil))) tNil))) (tCall sp_full_web [] E0 (tCons (tVar 1) tNil)))))))))))))
def N__law_are_rows_right : List Str := ["pot", "many", "far", "row", "names", "late", "made", "due", "gap"]
theorem len__law_are_rows_right : ∀ vs H Q E, sp__law_are_rows_right vs H Q E → vs.length = (["pot"] : List Str).length := lenP fun ds c Φ h => by
  obtain ⟨rfl, hc, h⟩ := h; rfl
theorem rd__law_are_rows_right {K : PySem.W.Frag} {w : World} : ∀ vs H Q E, sp__law_are_rows_right vs H Q E → t__law_are_rows_right K w { nx := fun _ H' => Q .non H', rt := Q } (L2.start N__law_are_rows_right vs) H := rd_P fun p ds c Φ h => by
  obtain ⟨rfl, hc, h⟩ := h
  show Ex K _ _ [.o p (.pot c), .e, .e, .e, .e, .e, .e, .e, .e]
  unfold t__law_are_rows_right
  refine y_seq (y_asg (js := [1, 2]) ?_)
  walk_at "go"
  refine ⟨c, rfl, 39, rfl, by omega, by omega, by omega, fun r1 hr1 => ?_⟩
  walk_at "go"
  refine ⟨_, rfl, _, _, rfl, rfl, ?_⟩
  walk_at "go"
  refine ⟨c + 1, rfl, 10, rfl, by omega, by omega, by omega, fun r2 hr2 => ?_⟩
  walk_at "go"
  refine ⟨_, rfl, _, _, rfl, rfl, ?_⟩
  walk_at "go"
  refine ⟨by simp, ?_⟩
  walk_at "go"
  refine ⟨_, rfl, rfl, ?_⟩
  rw [nD_eq (i := 2 + (r1 : Int)) (n := 2 + r1) (by omega), nD_eq (i := 1 + (r2 : Int)) (n := 1 + r2) (by omega)]
  obtain ⟨n, hn, n1, n2⟩ : ∃ n, 2 + r1 = n ∧ 2 ≤ n ∧ n ≤ 40 := ⟨_, rfl, by omega, by omega⟩
  obtain ⟨f, hf, f1, f2⟩ : ∃ f, 1 + r2 = f ∧ 1 ≤ f ∧ f ≤ 10 := ⟨_, rfl, by omega, by omega⟩
  rw [hn, hf]
  have M0 := met_row n
  have nn : 1 ≤ n := by omega
  refine egs_name (egs_name (egs_nil ?_))
  show Ex K _ _ [.o p (.pot (c + 1 + 1)), .d (nD n), .d (nD f), .e, .e, .e, .e, .e, .e]
  refine y_seq (y_par ?_)
  walk_at "go"
  refine cl_row nn n2 ?_
  walk_at "go"
  refine ⟨c + 1 + 1, rfl, n, rfl, by omega, by omega, fun g hg => ?_⟩
  walk_at "go"
  refine ⟨_, _, rfl, ?_⟩
  have M1 := M0.ren hg
  walk_at "go"
  refine cl_renamed M0 nn n2 hg ?_
  show Ex K _ _ [.o p (.pot (c + 1 + 1 + n)), .d (nD n), .d (nD f), .d (webD (Wm n dRow)), .d (.tuple (g.map nD)), .d (webD (Wm n (ren dRow g))), .e, .e, .e]
  obtain ⟨m1, m2⟩ := row_max nn
  obtain ⟨m3, m4⟩ := ren_max hg m1 m2
  walk_at "go"
  refine cl_longest M1 nn n2 m3 m4 ?_
  walk_at "go"
  refine ⟨_, _, rfl, rfl, ?_⟩
  refine ⟨_, eqSc_nD (by omega), _, rfl, fun _ => ?_, nofun⟩
  walk_at "go"
  refine cl_middle_row nn n2 hg ?_
  walk_at "go"
  refine ev_sortedSetL ?_
  walk_at "go"
  refine ⟨_, _, rfl, rfl, ?_⟩
  walk_at "go"
  refine ⟨_, _, rfl, rfl, ⟨by decide, by decide⟩, ?_⟩
  refine ⟨_, (((n - 1) / 2 : Nat) : Int), _, rfl, by rw [show ((n : Int) - 1) / 2 = (((n - 1) / 2 : Nat) : Int) by omega], nm_at (by rw [hg.len]; omega), ?_⟩
  walk_at "go"
  refine ⟨_, _, rfl, rfl, ⟨by decide, by decide⟩, ?_⟩
  refine ⟨_, ((n / 2 : Nat) : Int), _, rfl, by rw [show (n : Int) / 2 = ((n / 2 : Nat) : Int) by omega], nm_at (by rw [hg.len]; omega), ?_⟩
  walk_at "go"
  refine ⟨by simp, ?_⟩
  walk_at "go"
  refine ⟨[(nm g ((n - 1) / 2) : Int), (nm g (n / 2) : Int)], rfl, by simp, fun ms hms him => ?_⟩
  have ems : ms = ((List.range n).filter fun x => decide (iv g x = (n - 1) / 2 ∨ iv g x = n / 2)).map Int.ofNat := by
    refine lt_unique_int hms (nat_lt_int ((range_lt n).filter _)) fun z => ?_
    rw [him]
    simp only [List.mem_cons, List.not_mem_nil, or_false, List.mem_map, List.mem_filter, List.mem_range, decide_eq_true_eq]
    constructor
    · rintro (rfl | rfl)
      · exact ⟨_, ⟨nm_lt hg (by omega), .inl (iv_nm hg (by omega))⟩, rfl⟩
      · exact ⟨_, ⟨nm_lt hg (by omega), .inr (iv_nm hg (by omega))⟩, rfl⟩
    · rintro ⟨x, ⟨hx, h1 | h1⟩, rfl⟩
      · exact .inl (by rw [← h1, nm_iv hg hx]; rfl)
      · exact .inr (by rw [← h1, nm_iv hg hx]; rfl)
  rw [ems, ← map_nD]
  walk_at "go"
  refine ⟨_, rfl, ?_⟩
  walk_at "go"
  refine ⟨(shp_row _).ok, (shp_row _).ok, _, rfl, ?_⟩
  rw [(eqv_row _ _).mpr rfl]
  refine ⟨nofun, fun _ => ?_⟩
  walk_at "go"
  refine cl_power M1 nn n2 f1 (by omega) ?_
  have M2 := M1.cd f1
  have cnt := row_cnt n1 n2 f1 (by omega) hg
  refine y_seq (y_set (ev_sum (ea_cons ?_)))
  refine ev_lcM (fun i : Nat => nD (i + 1)) (fun i => nD (n - (i + 1))) (js := [8]) (by decide) ?_
  walk_at "go"
  refine ⟨_, _, rfl, rfl, ?_⟩
  have e1 : ∀ m : Nat, ((rangeI 1 m).map PyData.int) = (List.range m).map fun i => nD (i + 1) := fun m => by
    rw [show (1 : Int) = ((1 : Nat) : Int) from rfl, rangeI_off, List.map_map]
    exact List.map_congr_left fun x _ => by show PyData.int ((1 + x : Nat) : Int) = PyData.int ((x + 1 : Nat) : Int); rw [Nat.add_comm]
  walk_at "go"
  refine ⟨1, (f : Int) + 1, rfl, by omega, by omega, List.range f, ?_, by simp; omega, ?_, ?_⟩
  · rw [show ((f : Int) + 1 - 1).toNat = f by omega, e1]
  · intro i hi
    walk_at "go"
    refine ⟨_, _, rfl, rfl, ?_⟩
    walk_at "go"
    exact ⟨_, _, rfl, nD_eq (by omega), rfl⟩
  walk_at "go"
  refine ⟨(List.range f).map fun i => ((n - (i + 1) : Nat) : Int), by rw [List.map_map]; rfl, ?_⟩
  rw [sum_cast, ← cnt]
  generalize hL : (Wm n (cd (ren dRow g) f)).ts.length = L
  show Ex K _ _ [.o p (.pot (c + 1 + 1 + n)), .d (nD n), .d (nD f), .d (webD (Wm n dRow)), .d (.tuple (g.map nD)), .d (webD (Wm n (ren dRow g))), .d (webD (Wm n (cd (ren dRow g) f))), .d (nD L), .e]
  walk_at "go"
  refine ⟨_, 1, _, rfl, rfl, rfl, ?_⟩
  walk_at "go"
  refine ⟨_, _, rfl, rfl, ?_⟩
  rw [len_ties, hL]
  walk_at "go"
  refine ⟨_, eqSc_nD rfl, _, rfl, fun _ => ?_, nofun⟩
  walk_at "go"
  obtain ⟨m5, m6⟩ := cd_max f1 m3 m4
  refine cl_longest M2 nn n2 m5 m6 ?_
  walk_at "go"
  refine ⟨_, _, rfl, rfl, ?_⟩
  walk_at "go"
  refine ⟨_, _, rfl, rfl, ?_⟩
  walk_at "go"
  refine ⟨_, _, rfl, rfl, ?_⟩
  walk_at "go"
  refine ⟨_, _, rfl, rfl, ⟨by omega, by omega⟩, ?_⟩
  refine ⟨_, eqSc_nD ?_, _, rfl, nofun, fun _ => ?_⟩
  · rw [show (n : Int) - 1 + (f : Int) - 1 = ((n - 1 + f - 1 : Nat) : Int) by omega]
    exact Int.natCast_ediv _ _
  walk_at "go"
  refine cl_is_power M1 nn n2 nn n2 f1 (by omega) fun b hb => ?_
  have hb : b = true := hb.mpr rfl
  subst hb
  walk_at "go"
  refine ⟨_, _, rfl, rfl, _, rfl, fun _ => ?_, nofun⟩
  walk_at "go"
  refine ⟨_, _, rfl, rfl, ?_⟩
  walk_at "go"
  rw [nD_eq (i := (f : Int) + 1) (n := f + 1) (by omega)]
  refine cl_is_power M1 nn n2 nn n2 (by omega) (by omega) fun b hb => ?_
  rw [row_pow n1 f1 hg] at hb
  walk_at "go"
  refine ⟨_, _, rfl, rfl, ?_⟩
  walk_at "go"
  refine ⟨_, _, rfl, rfl, ?_⟩
  have e2 : eqSc (.bool b) (.bool (decide ((n : Int) - 1 ≤ (f : Int)))) = some true := by
    show some _ = some _
    refine congrArg some (decide_eq_true ?_)
    cases b with
    | true => exact (decide_eq_true (by have := hb.mp rfl; omega)).symm
    | false => exact (decide_eq_false (fun z => by have := hb.mpr (by omega); cases this)).symm
  refine ⟨_, e2, _, rfl, fun _ => ?_, nofun⟩
  walk_at "go"
  refine cl_is_power M1 nn n2 nn n2 (k := 1) (by omega) (by omega) fun b hb => ?_
  have hb : b = true := hb.mpr pow_one
  subst hb
  walk_at "go"
  refine ⟨_, _, rfl, rfl, _, rfl, nofun, fun _ => ?_⟩
  walk_at "go"
  refine cl_hangs M2 nn n2 ?_
  walk_at "go"
  refine ⟨_, _, rfl, rfl, _, rfl, fun _ => ?_, nofun⟩
  walk_at "go"
  refine ⟨_, _, rfl, ?_⟩
  walk_at "go"
  rw [nD_eq (i := min (40 : Int) (n : Int)) (n := n) (by omega)]
  refine cl_power M1 nn n2 nn n2 ?_
  walk_at "go"
  refine cl_full nn n2 ?_
  refine ⟨(shp_webD _).ok, (shp_webD _).ok, ?_⟩
  rw [pow_full M1 nn (fun x hx y hy => by have := m4 x hx y hy; omega), eqT]
  exact ⟨_, rfl, h _ (by omega)⟩
end Lp


set_option Elab.async false
set_option linter.all false
set_option maxRecDepth 100000
set_option maxHeartbeats 4000000
/-! Lp: armed webs: how far. -/
namespace Lp
def dep (f x : Nat) : Nat := if x = 0 then 0 else (x - 1) % f + 1
def arm (f x : Nat) : Nat := (x - 1) / f
def dArm (f x y : Nat) : Nat := if arm f x = arm f y then (dep f x - dep f y) + (dep f y - dep f x) else dep f x + dep f y
/-- the next place on the way from y to x -/
def toX (f x y : Nat) : Nat := if y = 0 then 1 + arm f x * f else if arm f x = arm f y ∧ dep f y < dep f x then y + 1 else if dep f y = 1 then 0 else y - 1
theorem arm_back : ((List.range 14).all fun f => (List.range (1 + 3 * f)).all fun x => (List.range (1 + 3 * f)).all fun y => decide (f < 1 ∨ ((x = y ∨ (toX f x y < 1 + 3 * f ∧ dArm f (toX f x y) y = 1 ∧ dArm f x y = dArm f x (toX f x y) + 1 ∧ dArm f x y ≠ 0)) ∧ dArm f x y ≤ 2 * f))) = true := by
  decide +kernel
theorem met_arm {f : Nat} (h1 : 1 ≤ f) (h2 : f ≤ 13) : Met (1 + 3 * f) (dArm f) := by
  have key : ∀ x y, x < 1 + 3 * f → y < 1 + 3 * f → x ≠ y → toX f x y < 1 + 3 * f ∧ dArm f (toX f x y) y = 1 ∧ dArm f x y = dArm f x (toX f x y) + 1 ∧ dArm f x y ≠ 0 := fun x y hx hy ne => by
    have := of_decide_eq_true (List.all_eq_true.mp (List.all_eq_true.mp (List.all_eq_true.mp arm_back f (List.mem_range.mpr (by omega))) x (List.mem_range.mpr hx)) y (List.mem_range.mpr hy))
    exact ((this.resolve_left (by omega)).1.resolve_left ne)
  refine ⟨fun x hx => ?_, fun x y hx hy e => ?_, fun x y hx hy => ?_, fun x y z hx hy hz => ?_, fun x y hx hy ne => ?_⟩
  · unfold dArm; simp
  · by_cases h : x = y
    · exact h
    · exact absurd e (key x y hx hy h).2.2.2
  · unfold dArm
    split <;> split <;> omega
  · unfold dArm
    split <;> split <;> split <;> omega
  · obtain ⟨a, b, c, _⟩ := key x y hx hy ne
    exact ⟨_, a, b, c⟩
theorem arm_le {f x y : Nat} (h1 : 1 ≤ f) (h2 : f ≤ 13) (hx : x < 1 + 3 * f) (hy : y < 1 + 3 * f) : dArm f x y ≤ 2 * f := by
  have := of_decide_eq_true (List.all_eq_true.mp (List.all_eq_true.mp (List.all_eq_true.mp arm_back f (List.mem_range.mpr (by omega))) x (List.mem_range.mpr hx)) y (List.mem_range.mpr hy))
  exact (this.resolve_left (by omega)).2
theorem arm_chk : ((List.range 14).all fun f => decide (f < 1 ∨ ((armedW f).ts = (Wm (1 + 3 * f) (dArm f)).ts ∧ (armedW f).ts.length = 3 * f))) = true := by
  decide +kernel
theorem arm_far : ((List.range 14).all fun f => decide (f < 1 ∨ (dArm f f (2 * f) = 2 * f ∧ dArm f f (3 * f) = 2 * f ∧ dArm f 0 (2 * f) = f ∧ dArm f 0 f = f)) && (List.range (1 + 3 * f)).all fun x => decide (f < 1 ∨ x = 0 ∨ dArm f x (if arm f x = 0 then 2 * f else f) = dep f x + f)) = true := by
  decide +kernel
theorem arm_hair : ((List.range 14).all fun f => decide (f < 1 ∨ (if f = 1 then ∀ x ∈ List.range 4, (armsAt (Wm 4 (dArm 1)).near x).length < 3 else 3 ≤ (armsAt (Wm (1 + 3 * f) (dArm f)).near 0).length))) = true := by
  decide +kernel
theorem wheel_in : ((List.range 41).all fun n => decide (n < 5 ∨ ((List.range n).filter fun y => decide (dWheel n 0 y ≤ 1)).length = 4)) = true := by
  decide +kernel
theorem sides_in : ((List.range 21).all fun a => (List.range 21).all fun b => decide (a < 1 ∨ ((List.range (a + b)).filter fun y => decide (dSides a 0 y ≤ 1)).length = b + 1)) = true := by
  decide +kernel
theorem arm_count : ((List.range 14).all fun f => (List.range 14).all fun k => decide (f < 1 ∨ k < 1 ∨ f < k ∨ (Wm (1 + 3 * f) (cd (dArm f) k)).ts.length = 3 * ((List.range k).map fun g => f + 1 - (g + 1)).sum + 3 * ((rowsT f fun _ => List.range f).filter fun t => decide (t.1 + 1 + (t.2 + 1) ≤ k)).length)) = true := by
  decide +kernel
end Lp

set_option Elab.async false
set_option linter.all false
set_option maxRecDepth 100000
set_option maxHeartbeats 4000000
/-! Lp: k56, wheels, two sides, armed ones; the law. -/
namespace Lp
open PySem PySem.Spec L2
local macro_rules | `(tactic| walk_at "e1") => `(tactic| first
  | (with_reducible refine y_seq ?_) | (with_reducible refine ev_var (by with_unfolding_all rfl) ?_) | (with_reducible refine ev_int ?_) | (with_reducible refine ev_bl ?_) | (with_reducible refine ev_non ?_) | (with_reducible refine ev_str ?_)
  | (with_reducible refine y_ret ?_) | (with_reducible refine y_retN ?_) | (with_reducible refine y_next ?_) | (with_reducible refine x_if ?_) | (with_reducible refine y_setM (em_call ?_)) | (with_reducible refine y_set ?_) | (with_reducible refine y_drop ?_)
  | (with_reducible refine eb_test ?_) | (with_reducible refine eb_B ?_) | (with_reducible refine eb_not ?_) | (with_reducible refine eb_and ?_) | (with_reducible refine eb_or ?_) | (with_reducible refine eb_yes ?_)
  | (with_reducible refine ev_and ?_) | (with_reducible refine ev_or ?_) | (with_reducible refine ev_not ?_) | (with_reducible refine ev_if ?_)
  | (with_reducible refine ev_I ?_) | (with_reducible refine ev_BI ?_) | (with_reducible refine ev_IC ?_) | (with_reducible refine ev_chainB ?_) | (with_reducible refine ev_un ?_)
  | (with_reducible refine ev_oixC (by with_unfolding_all rfl) (by with_unfolding_all rfl) (by with_unfolding_all rfl) ?_) | (with_reducible refine ev_ixL ?_) | (with_reducible refine ev_ixT ?_) | (with_reducible refine ev_isi ?_) | (with_reducible refine ev_isN ?_) | (with_reducible refine ev_notN ?_) | (with_reducible refine ev_isB ?_) | (with_reducible refine ev_notB ?_)
  | (with_reducible refine ev_eqG ?_) | (with_reducible refine ev_neG ?_) | (with_reducible refine ev_eqD ?_) | (with_reducible refine ev_neD ?_)
  | (with_reducible refine ev_slen (by with_unfolding_all rfl) ?_) | (with_reducible refine ev_olen (by with_unfolding_all rfl) ?_) | (with_reducible refine ev_len ?_) | (with_reducible refine ev_tup ?_) | (with_reducible refine ev_lst ?_) | (with_reducible refine ea_nil ?_) | (with_reducible refine ea_cons ?_) | (with_reducible refine ea_star ?_)
  | (with_reducible refine ev_call ?_) | (with_reducible refine em_call ?_) | (with_reducible refine em_var (by with_unfolding_all rfl) ?_) | (with_reducible refine ev_max2 ?_) | (with_reducible refine ev_min2 ?_) | (with_reducible refine ev_abs ?_)
  | (with_reducible refine ev_all ?_) | (with_reducible refine ev_any ?_) | (with_reducible refine ev_sum ?_) | (with_reducible refine ev_max ?_) | (with_reducible refine ev_min ?_) | (with_reducible refine ev_tupOf ?_)
  | (with_reducible refine ev_sortedI ?_) | (with_reducible refine ev_sortedP ?_) | (with_reducible refine ev_sortedD ?_) | (with_reducible refine ev_maxVals ?_) | (with_reducible refine ev_dget ?_) | (with_reducible refine ev_dget1 ?_) | (with_reducible refine ev_din ?_) | (with_reducible refine ev_dnotin ?_)
  | (with_reducible refine ev_slL ?_) | (with_reducible refine ev_slT ?_) | (with_reducible refine eo_none ?_) | (with_reducible refine eo_some ?_) | (with_reducible refine ev_cat ?_) | (with_reducible refine ev_ltT ?_) | (with_reducible refine ev_inI ?_)
  | (with_reducible refine ei_list ?_) | (with_reducible refine ei_tup ?_) | (with_reducible refine ei_rng1 ?_) | (with_reducible refine ei_rng2 ?_) | (with_reducible refine ei_zip ?_) | (with_reducible refine eg_name ?_) | (with_reducible refine eg_tup ?_) | (with_reducible refine egs_name ?_) | (with_reducible refine egs_nil ?_)
  | (with_reducible refine ev_int1 ?_) | (with_reducible refine ev_callP (by with_unfolding_all rfl) ?_) | (with_reducible refine x_never ?_))
local macro_rules | `(tactic| walk_at "e") => `(tactic| first | walk_at "e1" | exact ⟨_, _, rfl, rfl, rfl⟩ | (refine ⟨_, _, rfl, rfl, ?_⟩) | (refine ⟨_, rfl, ?_⟩))
local macro_rules | `(tactic| walk_at "go") => `(tactic| repeat walk_at "e1")
local macro_rules | `(tactic| walk_at "n") => `(tactic| simp only [List.set_cons_zero, List.set_cons_succ])
theorem arm_Wm {f : Nat} (h1 : 1 ≤ f) (h2 : f ≤ 13) : armedW f = Wm (1 + 3 * f) (dArm f) ∧ (armedW f).ts.length = 3 * f := by
  have := of_decide_eq_true (List.all_eq_true.mp arm_chk f (List.mem_range.mpr (by omega)))
  obtain ⟨a, b⟩ := this.resolve_left (by omega)
  refine ⟨?_, b⟩
  show (⟨1 + 3 * f, (armedW f).ts⟩ : Web) = ⟨1 + 3 * f, (Wm (1 + 3 * f) (dArm f)).ts⟩
  rw [a]
theorem arm_far' {f : Nat} (h1 : 1 ≤ f) (h2 : f ≤ 13) : (dArm f f (2 * f) = 2 * f ∧ dArm f f (3 * f) = 2 * f ∧ dArm f 0 (2 * f) = f ∧ dArm f 0 f = f) ∧ ∀ x < 1 + 3 * f, x ≠ 0 → dArm f x (if arm f x = 0 then 2 * f else f) = dep f x + f := by
  have := List.all_eq_true.mp arm_far f (List.mem_range.mpr (by omega))
  rw [Bool.and_eq_true] at this
  obtain ⟨a, b⟩ := this
  refine ⟨(of_decide_eq_true a).resolve_left (by omega), fun x hx ne => ?_⟩
  exact ((of_decide_eq_true (List.all_eq_true.mp b x (List.mem_range.mpr hx))).resolve_left (by omega)).resolve_left ne
theorem dep_le {f x : Nat} (h1 : 1 ≤ f) : dep f x ≤ f := by
  unfold dep
  split
  · omega
  · have := Nat.mod_lt (x - 1) (show 0 < f by omega); omega
theorem dArm_le {f x y : Nat} (h1 : 1 ≤ f) : dArm f x y ≤ dep f x + f := by
  have := dep_le (x := y) h1
  unfold dArm
  split <;> omega
theorem arm_ecc {f x : Nat} (h1 : 1 ≤ f) (h2 : f ≤ 13) (hx : x < 1 + 3 * f) : ecc (Wm (1 + 3 * f) (dArm f)).near x = dep f x + f := by
  obtain ⟨⟨a, b, c, d⟩, e⟩ := arm_far' h1 h2
  refine (met_arm h1 h2).ecc (by omega) (by omega) hx ?_ fun y _ => dArm_le h1
  by_cases z : x = 0
  · subst z
    exact ⟨f, by omega, by rw [d]; simp [dep]⟩
  · exact ⟨_, by split <;> omega, e x hx z⟩
theorem arm_tree {f : Nat} (h1 : 1 ≤ f) (h2 : f ≤ 13) : (Wm (1 + 3 * f) (dArm f)).tree := by
  refine ⟨?_, (met_arm h1 h2).joined (by omega) (by omega)⟩
  rw [← (arm_Wm h1 h2).1, (arm_Wm h1 h2).2]
  show 3 * f + 1 = 1 + 3 * f
  omega
theorem arm_middle {f : Nat} {Φ : PyData → Prop} (h1 : 1 ≤ f) (h2 : f ≤ 13) (h : Φ (.tuple [nD 0])) : A_middle [webD (Wm (1 + 3 * f) (dArm f))] Φ := by
  refine ⟨_, rfl, Wm_ok _ (by omega) (by omega), arm_tree h1 h2, fun m a b => ?_⟩
  have hm : m = f := by
    refine Nat.le_antisymm ?_ ?_
    · have := b 0 (by show 0 < 1 + 3 * f; omega)
      rw [arm_ecc h1 h2 (by omega)] at this
      simpa [dep] using this
    · obtain ⟨x, hx, e⟩ := a
      rw [arm_ecc h1 h2 hx] at e
      omega
  have : ((List.range (Wm (1 + 3 * f) (dArm f)).n).filter fun x => decide (ecc (Wm (1 + 3 * f) (dArm f)).near x = m)) = [0] := by
    show ((List.range (1 + 3 * f)).filter _) = _
    refine lt_unique ((range_lt _).filter _) (by simp) fun x => ?_
    rw [List.mem_filter, List.mem_range, List.mem_singleton, decide_eq_true_eq]
    constructor
    · rintro ⟨hx, e⟩
      rw [arm_ecc h1 h2 hx, hm] at e
      unfold dep at e
      split at e
      · assumption
      · omega
    · rintro rfl
      refine ⟨by omega, ?_⟩
      rw [arm_ecc h1 h2 (by omega), hm]
      simp [dep]
  rw [this]
  exact h
theorem arm_hairy {f : Nat} (h1 : 1 ≤ f) (h2 : f ≤ 13) : (f = 1 → (Wm (1 + 3 * f) (dArm f)).hairy) ∧ (f ≠ 1 → ¬ (Wm (1 + 3 * f) (dArm f)).hairy) := by
  have := (of_decide_eq_true (List.all_eq_true.mp arm_hair f (List.mem_range.mpr (by omega)))).resolve_left (by omega)
  refine ⟨fun e => ?_, fun e => ?_⟩
  · subst e
    rw [if_pos rfl] at this
    exact fun x hx => this x (List.mem_range.mpr hx)
  · rw [if_neg e] at this
    exact fun z => by have := z 0 (by show 0 < 1 + 3 * f; omega); omega
theorem arm_is_hairy {f : Nat} {Φ : PyData → Prop} (h1 : 1 ≤ f) (h2 : f ≤ 13) (h : Φ (.bool (decide (f = 1)))) : A_is_hairy_row [webD (Wm (1 + 3 * f) (dArm f))] Φ := by
  refine ⟨_, rfl, Wm_ok _ (by omega) (by omega), arm_tree h1 h2, fun b hb => ?_⟩
  have : b = decide (f = 1) := by
    by_cases e : f = 1
    · rw [decide_eq_true e]; exact hb.mpr ((arm_hairy h1 h2).1 e)
    · rw [decide_eq_false e]
      cases b with
      | false => rfl
      | true => exact absurd (hb.mp rfl) ((arm_hairy h1 h2).2 e)
  rw [this]; exact h
theorem arm_long {f : Nat} {Φ : PyData → Prop} (h1 : 1 ≤ f) (h2 : f ≤ 13) (h : ∀ d, isNonD d = decide (f = 1) → Φ d) : A_long_arms [webD (Wm (1 + 3 * f) (dArm f))] Φ := by
  refine ⟨_, rfl, Wm_ok _ (by omega) (by omega), arm_tree h1 h2, fun hh => h _ ?_, fun x hx h3 _ => h _ ?_⟩
  · by_cases e : f = 1
    · rw [decide_eq_true e]; rfl
    · exact absurd hh ((arm_hairy h1 h2).2 e)
  · by_cases e : f = 1
    · have := (arm_hairy h1 h2).1 e x hx; omega
    · rw [decide_eq_false e]; rfl
theorem cl_armed {f : Nat} {Φ : PyData → Prop} (h1 : 1 ≤ f) (h2 : f ≤ 13) (h : Φ (webD (Wm (1 + 3 * f) (dArm f)))) : A_armed [nD f] Φ := ⟨f, rfl, h1, h2, by rw [(arm_Wm h1 h2).1]; exact h⟩
theorem cl_is_tree {f : Nat} {Φ : PyData → Prop} (h1 : 1 ≤ f) (h2 : f ≤ 13) (h : Φ (.bool true)) : A_is_tree [webD (Wm (1 + 3 * f) (dArm f))] Φ :=
  ⟨_, rfl, Wm_ok _ (by omega) (by omega), fun b hb => by rw [hb.mpr (arm_tree h1 h2)]; exact h⟩
theorem wheel_max {n : Nat} (hn : 5 ≤ n) : (∃ x < n, ∃ y < n, dWheel n x y = 2) ∧ ∀ x < n, ∀ y < n, dWheel n x y ≤ 2 := by
  refine ⟨⟨0, by omega, 2, by omega, ?_⟩, fun x hx y hy => ?_⟩
  · unfold dWheel; rw [if_neg (by omega), if_neg (by omega)]
  · unfold dWheel; split <;> (try split) <;> omega
theorem sides_max {a b : Nat} (ha : 1 ≤ a) (hb : 2 ≤ b) : (∃ x < a + b, ∃ y < a + b, dSides a x y = 2) ∧ ∀ x < a + b, ∀ y < a + b, dSides a x y ≤ 2 := by
  refine ⟨⟨a, by omega, a + 1, by omega, ?_⟩, fun x hx y hy => ?_⟩
  · unfold dSides; rw [if_neg (by omega), if_pos (by omega)]
  · unfold dSides; split <;> (try split) <;> omega
def A__law_are_others_right (ds : List PyData) (c : Nat) (Φ : PyData → Nat → Prop) : Prop := ds = [] ∧ c ≤ 10000 ∧ ∀ c', c' ≤ c + 100 → Φ (.bool true) c'
abbrev sp__law_are_others_right : Sp := spP A__law_are_others_right
def t__law_are_others_right (K : PySem.W.Frag) : TS := (tSeq (tAsg (tOp (rI0 fun i j => .int (i + j)) (tC (.int 5)) (tCB rInt1 (tCons (tCall sp__law_take [] E0 (tCons (tVar 0) (tCons (tC (.int 36)) tNil))) tNil))) (gName 1)) (tSeq (tIfS (tOr (tTest (tOp rNe (tCall sp_longest_way [] E0 (tCons (tCall sp_wheel [] E0 (tCons (tVar 1) tNil)) tNil)) (tC (.int 2)))) (tOr (tTest (tOp rNe (tCB (rLenS K) (tCons (tCall sp_within [] E0 (tCons (tCall sp_wheel [] E0 (tCons (tVar 1) tNil)) (tCons (tC (.int 0)) (tCons (tC (.int 1)) tNil)))) tNil)) (tC (.int 4)))) (tTest (tOp (rNeD K) (tCall sp_power [] E0 (tCons (tCall sp_wheel [] E0 (tCons (tVar 1) tNil)) (tCons (tC (.int 2)) tNil))) (tCall sp_full_web [] E0 (tCons (tVar 1) tNil)))))) (tRet (tC (.bl false))) tNext) (tSeq (tPar 2 3 (tCons (tOp (rI0 fun i j => .int (i + j)) (tC (.int 1)) (tCB rInt1 (tCons (tCall sp__law_take [] E0 (tCons (tVar 0) (tCons (tC (.int 19)) tNil))) tNil))) (tCons (tOp (rI0 fun i j => .int (i + j)) (tC (.int 2)) (tCB rInt1 (tCons (tCall sp__law_take [] E0 (tCons (tVar 0) (tCons (tC (.int 18)) tNil))) tNil))) tNil))) (tSeq (tAsg (tCall sp_two_sided [] E0 (tCons (tVar 2) (tCons (tVar 3) tNil))) (gName 4)) (tSeq (tIfS (tOr (tTest (tOp rNe (tCall sp_longest_way [] E0 (tCons (tVar 4) tNil)) (tC (.int 2)))) (tOr (tTest (tOp rNe (tCB (rLenS K) (tCons (tCall sp_within [] E0 (tCons (tVar 4) (tCons (tC (.int 0)) (tCons (tC (.int 1)) tNil)))) tNil)) (tOp (rI0 fun i j => .int (i + j)) (tVar 3) (tC (.int 1))))) (tTest (tOp rNe (tCall sp_way [] E0 (tCons (tVar 4) (tCons (tVar 2) (tCons (tOp (rI0 fun i j => .int (i - j)) (tOp (rI0 fun i j => .int (i + j)) (tVar 2) (tVar 3)) (tC (.int 1))) tNil)))) (tC (.int 2)))))) (tRet (tC (.bl false))) tNext) (tSeq (tAsg (tOp (rI0 fun i j => .int (i + j)) (tC (.int 1)) (tCB rInt1 (tCons (tCall sp__law_take [] E0 (tCons (tVar 0) (tCons (tC (.int 13)) tNil))) tNil))) (gName 5)) (tSeq (tAsg (tCall sp_armed [] E0 (tCons (tVar 5) tNil)) (gName 4)) (tSeq (tIfS (tOr (tTest (tOp rNotB (tCall sp_is_tree [] E0 (tCons (tVar 4) tNil)) (tC (.bl true)))) (tOr (tTest (tOp rNe (tOp (rIxT K) (tVar 4) (tC (.int 0))) (tOp (rI0 fun i j => .int (i + j)) (tOp (rI CMul fun i j => .int (i * j)) (tC (.int 3)) (tVar 5)) (tC (.int 1))))) (tOr (tTest (tOp rNe (tCall sp_longest_way [] E0 (tCons (tVar 4) tNil)) (tOp (rI CMul fun i j => .int (i * j)) (tC (.int 2)) (tVar 5)))) (tTest (tOp (rNeD K) (tCall sp_middle [] E0 (tCons (tVar 4) tNil)) (tTup (tCons (tC (.int 0)) tNil))))))) (tRet (tC (.bl false))) tNext) (tSeq (tIfS (tOr (tTest (tOp rNe (tCall sp_is_hairy_row [] E0 (tCons (tVar 4) tNil)) (tOp rEq (tVar 5) (tC (.int 1))))) (tOr (tTest (tOp rNe (tOp (fun x y H Q => y = .non ∧ Q (.bl (decide (x = .non))) H) (tCall sp_long_arms [] E0 (tCons (tVar 4) tNil)) (tC .non)) (tOp rEq (tVar 5) (tC (.int 1))))) (tOr (tTest (tOp rNe (tCall sp_way [] E0 (tCons (tVar 4) (tCons (tVar 5) (tCons (tOp (rI CMul fun i j => .int (i * j)) (tC (.int 3)) (tVar 5)) tNil)))) (tOp (rI CMul fun i j => .int (i * j)) (tC (.int 2)) (tVar 5)))) (tTest (tOp rNe (tCall sp_way [] E0 (tCons (tVar 4) (tCons (tC (.int 0)) (tCons (tOp (rI CMul fun i j => .int (i * j)) (tC (.int 2)) (tVar 5)) tNil)))) (tVar 5)))))) (tRet (tC (.bl false))) tNext) (tSeq (tAsg (tOp (rI0 fun i j => .int (i + j)) (tC (.int 1)) (tCB rInt1 (tCons (tCall sp__law_take [] E0 (tCons (tVar 0) (tCons (tVar 5) tNil))) tNil))) (gName 6)) (tSeq (tAsg (tOp (rI CMul fun i j => .int (i * j)) (tC (.int 3)) (tCB (rSum K) (tCons (tLc (iRng2 (tCons (tC (.int 1)) (tCons (tOp (rI0 fun i j => .int (i + j)) (tVar 6) (tC (.int 1))) tNil))) (gName 8) tYes (tCB rMax2 (tCons (tC (.int 0)) (tCons (tOp (rI0 fun i j => .int (i - j)) (tOp (rI0 fun i j => .int (i + j)) (tVar 5) (tC (.int 1))) (tVar 8)) tNil))) [8]) tNil))) (gName 7)) (tSeq (tAsg (tOp (rI0 fun i j => .int (i + j)) (tVar 7) (tOp (rI CMul fun i j => .int (i * j)) (tC (.int 3)) (tCB (rLenS K) (tCons (tLc (iList K (tCall sp__law_all_pairs [] E0 (tCons (tVar 5) tNil))) (gName 9) (tTest (tOp (rI0 fun i j => .bl (decide (i ≤ j))) (tOp (rI0 fun i j => .int (i + j)) (tOp (rIxT K) (tVar 9) (tC (.int 0))) (tOp (rIxT K) (tVar 9) (tC (.int 1)))) (tVar 6))) (tC (.int 1)) [9]) tNil)))) (gName 7)) (tRet (tOp rEq (tCB (rLenS K) (tCons (tOp (rIxT K) (tCall sp_power [] E0 (tCons (tVar 4) (tCons (tVar 6) tNil))) (tC (.int 1))) tNil)) (tVar 7)))))))))))))))
def N__law_are_others_right : List Str := ["pot", "many", "one", "other", "web", "far", "near", "due", "gap", "pair"]
theorem len__law_are_others_right : ∀ vs H Q E, sp__law_are_others_right vs H Q E → vs.length = (["pot"] : List Str).length := lenP fun ds c Φ h => by
  obtain ⟨rfl, hc, h⟩ := h; rfl
theorem rd__law_are_others_right {K : PySem.W.Frag} : ∀ vs H Q E, sp__law_are_others_right vs H Q E → t__law_are_others_right K { nx := fun _ H' => Q .non H', rt := Q } (L2.start N__law_are_others_right vs) H := rd_P fun p ds c Φ h => by
  obtain ⟨rfl, hc, h⟩ := h
  show Ex K _ _ [.o p (.pot c), .e, .e, .e, .e, .e, .e, .e, .e, .e]
  unfold t__law_are_others_right
  walk_at "go"
  refine ⟨c, rfl, 36, rfl, by omega, by omega, by omega, fun r1 hr1 => ?_⟩
  walk_at "go"
  refine ⟨_, rfl, _, _, rfl, rfl, ?_⟩
  rw [nD_eq (i := 5 + (r1 : Int)) (n := 5 + r1) (by omega)]
  obtain ⟨n, hn, n1, n2⟩ : ∃ n, 5 + r1 = n ∧ 5 ≤ n ∧ n ≤ 40 := ⟨_, rfl, by omega, by omega⟩
  rw [hn]
  have nn : 1 ≤ n := by omega
  have M0 := met_wheel (n := n) (by omega)
  obtain ⟨m1, m2⟩ := wheel_max n1
  show Ex K _ _ [.o p (.pot (c + 1)), .d (nD n), .e, .e, .e, .e, .e, .e, .e, .e]
  walk_at "go"
  refine cl_wheel (by omega) n2 ?_
  walk_at "go"
  refine cl_longest M0 nn n2 m1 m2 ?_
  walk_at "go"
  refine ⟨_, eqSc_nD rfl, _, rfl, fun _ => ?_, nofun⟩
  walk_at "go"
  refine cl_wheel (by omega) n2 ?_
  walk_at "go"
  refine cl_within M0 nn n2 (x := 0) (k := 1) (by omega) (by omega) ?_
  walk_at "go"
  refine ⟨_, _, rfl, rfl, ?_⟩
  have win := (of_decide_eq_true (List.all_eq_true.mp wheel_in n (List.mem_range.mpr (by omega)))).resolve_left (by omega)
  rw [List.length_map, win]
  walk_at "go"
  refine ⟨_, eqSc_nD rfl, _, rfl, fun _ => ?_, nofun⟩
  walk_at "go"
  refine cl_wheel (by omega) n2 ?_
  walk_at "go"
  refine cl_power M0 nn n2 (k := 2) (by omega) (by omega) ?_
  walk_at "go"
  refine cl_full nn n2 ?_
  refine ⟨(shp_webD _).ok, (shp_webD _).ok, _, rfl, ?_⟩
  rw [pow_full M0 (by omega) m2, eqT]
  refine ⟨nofun, fun _ => ?_⟩
  refine y_next (y_seq (y_par ?_))
  walk_at "go"
  refine ⟨c + 1, rfl, 19, rfl, by omega, by omega, by omega, fun r2 hr2 => ?_⟩
  walk_at "go"
  refine ⟨_, rfl, _, _, rfl, rfl, ?_⟩
  walk_at "go"
  refine ⟨c + 1 + 1, rfl, 18, rfl, by omega, by omega, by omega, fun r3 hr3 => ?_⟩
  walk_at "go"
  refine ⟨_, rfl, _, _, rfl, rfl, ?_⟩
  walk_at "go"
  refine ⟨_, _, rfl, ?_⟩
  rw [nD_eq (i := 1 + (r2 : Int)) (n := 1 + r2) (by omega), nD_eq (i := 2 + (r3 : Int)) (n := 2 + r3) (by omega)]
  obtain ⟨a, ha, a1, a2⟩ : ∃ a, 1 + r2 = a ∧ 1 ≤ a ∧ a ≤ 19 := ⟨_, rfl, by omega, by omega⟩
  obtain ⟨b, hb, b1, b2⟩ : ∃ b, 2 + r3 = b ∧ 2 ≤ b ∧ b ≤ 19 := ⟨_, rfl, by omega, by omega⟩
  rw [ha, hb]
  walk_at "go"
  refine cl_sides a1 (by omega) (by omega) (by omega) ?_
  have MS := met_sides a1 (show 1 ≤ b by omega)
  obtain ⟨s1, s2⟩ := sides_max a1 b1
  have ab1 : 1 ≤ a + b := by omega
  have ab2 : a + b ≤ 40 := by omega
  show Ex K _ _ [.o p (.pot (c + 1 + 1 + 1)), .d (nD n), .d (nD a), .d (nD b), .d (webD (Wm (a + b) (dSides a))), .e, .e, .e, .e, .e]
  walk_at "go"
  refine cl_longest MS ab1 ab2 s1 s2 ?_
  walk_at "go"
  refine ⟨_, eqSc_nD rfl, _, rfl, fun _ => ?_, nofun⟩
  walk_at "go"
  refine cl_within MS ab1 ab2 (x := 0) (k := 1) (by omega) (by omega) ?_
  walk_at "go"
  refine ⟨_, _, rfl, rfl, ?_⟩
  have sin := (of_decide_eq_true (List.all_eq_true.mp (List.all_eq_true.mp sides_in a (List.mem_range.mpr (by omega))) b (List.mem_range.mpr (by omega)))).resolve_left (by omega)
  rw [List.length_map, sin]
  walk_at "go"
  refine ⟨_, _, rfl, rfl, ?_⟩
  refine ⟨_, eqSc_nD (by omega), _, rfl, fun _ => ?_, nofun⟩
  walk_at "go"
  refine ⟨_, _, rfl, rfl, ?_⟩
  walk_at "go"
  refine ⟨_, _, rfl, rfl, ?_⟩
  rw [nD_eq (i := (a : Int) + (b : Int) - 1) (n := a + b - 1) (by omega)]
  walk_at "go"
  refine cl_way MS ab1 ab2 (by omega) (by omega) ?_
  rw [show dSides a a (a + b - 1) = 2 by unfold dSides; rw [if_neg (by omega), if_pos (by omega)]]
  walk_at "go"
  refine ⟨_, eqSc_nD rfl, _, rfl, nofun, fun _ => ?_⟩
  walk_at "go"
  refine ⟨c + 1 + 1 + 1, rfl, 13, rfl, by omega, by omega, by omega, fun r4 hr4 => ?_⟩
  walk_at "go"
  refine ⟨_, rfl, _, _, rfl, rfl, ?_⟩
  rw [nD_eq (i := 1 + (r4 : Int)) (n := 1 + r4) (by omega)]
  obtain ⟨f, hf, f1, f2⟩ : ∃ f, 1 + r4 = f ∧ 1 ≤ f ∧ f ≤ 13 := ⟨_, rfl, by omega, by omega⟩
  rw [hf]
  walk_at "go"
  refine cl_armed f1 f2 ?_
  have MA := met_arm f1 f2
  obtain ⟨⟨q1, q2, q3, q4⟩, _⟩ := arm_far' f1 f2
  have g1 : 1 ≤ 1 + 3 * f := by omega
  have g2 : 1 + 3 * f ≤ 40 := by omega
  show Ex K _ _ [.o p (.pot (c + 1 + 1 + 1 + 1)), .d (nD n), .d (nD a), .d (nD b), .d (webD (Wm (1 + 3 * f) (dArm f))), .d (nD f), .e, .e, .e, .e]
  walk_at "go"
  refine cl_is_tree f1 f2 ?_
  walk_at "go"
  refine ⟨_, _, rfl, rfl, _, rfl, fun _ => ?_, nofun⟩
  walk_at "go"
  refine ⟨_, 0, _, rfl, rfl, rfl, ?_⟩
  walk_at "go"
  refine ⟨_, _, rfl, rfl, .inl ⟨by omega, by omega⟩, ?_⟩
  walk_at "go"
  refine ⟨_, _, rfl, rfl, ?_⟩
  refine ⟨_, eqSc_nD (n := 1 + 3 * f) (by omega), _, rfl, fun _ => ?_, nofun⟩
  walk_at "go"
  refine cl_longest MA g1 g2 (L := 2 * f) ⟨f, by omega, 2 * f, by omega, q1⟩ (fun x hx y hy => arm_le f1 f2 hx hy) ?_
  walk_at "go"
  refine ⟨_, _, rfl, rfl, .inl ⟨by omega, by omega⟩, ?_⟩
  refine ⟨_, eqSc_nD (by omega), _, rfl, fun _ => ?_, nofun⟩
  walk_at "go"
  refine arm_middle f1 f2 ?_
  walk_at "go"
  refine ⟨by simp, (shp_row [0]).ok, (shp_row [0]).ok, _, rfl, ?_⟩
  rw [show PyData.eqv (.tuple [nD 0]) (.tuple [.int 0]) = true from (eqv_row [0] [0]).mpr rfl]
  refine ⟨nofun, fun _ => ?_⟩
  walk_at "go"
  refine arm_is_hairy f1 f2 ?_
  walk_at "go"
  have ef : ∀ k : Nat, decide (k = 1) = decide ((k : Int) = 1) := fun k => decide_eq_decide.mpr (by omega)
  refine ⟨_, rfl, _, rfl, _, rfl, ?_, ?_⟩
  rotate_left
  · intro z; rw [ef] at z; simp at z
  intro _
  walk_at "go"
  refine arm_long f1 f2 fun d hd => ?_
  walk_at "go"
  rw [hd]
  refine ⟨_, rfl, _, rfl, _, rfl, ?_, ?_⟩
  rotate_left
  · intro z; rw [ef] at z; simp at z
  intro _
  walk_at "go"
  refine ⟨_, _, rfl, rfl, .inl ⟨by omega, by omega⟩, ?_⟩
  walk_at "go"
  rw [nD_eq (i := 3 * (f : Int)) (n := 3 * f) (by omega)]
  refine cl_way MA g1 g2 (by omega) (by omega) ?_
  rw [q2]
  walk_at "go"
  refine ⟨_, _, rfl, rfl, .inl ⟨by omega, by omega⟩, ?_⟩
  refine ⟨_, eqSc_nD (by omega), _, rfl, fun _ => ?_, nofun⟩
  walk_at "go"
  refine ⟨_, _, rfl, rfl, .inl ⟨by omega, by omega⟩, ?_⟩
  walk_at "go"
  rw [nD_eq (i := 2 * (f : Int)) (n := 2 * f) (by omega)]
  refine cl_way MA g1 g2 (x := 0) (y := 2 * f) (by omega) (by omega) ?_
  rw [q3]
  walk_at "go"
  refine ⟨_, eqSc_nD rfl, _, rfl, nofun, fun _ => ?_⟩
  walk_at "go"
  refine ⟨c + 1 + 1 + 1 + 1, rfl, f, rfl, by omega, by omega, by omega, fun r5 hr5 => ?_⟩
  walk_at "go"
  refine ⟨_, rfl, _, _, rfl, rfl, ?_⟩
  rw [nD_eq (i := 1 + (r5 : Int)) (n := 1 + r5) (by omega)]
  obtain ⟨k, hk, k1, k2⟩ : ∃ k, 1 + r5 = k ∧ 1 ≤ k ∧ k ≤ f := ⟨_, rfl, by omega, by omega⟩
  rw [hk]
  have e1 : ∀ m : Nat, ((rangeI 1 m).map PyData.int) = (List.range m).map fun i => nD (i + 1) := fun m => by
    rw [show (1 : Int) = ((1 : Nat) : Int) from rfl, rangeI_off, List.map_map]
    exact List.map_congr_left fun x _ => by show PyData.int ((1 + x : Nat) : Int) = PyData.int ((x + 1 : Nat) : Int); rw [Nat.add_comm]
  show Ex K _ _ [.o p (.pot (c + 1 + 1 + 1 + 1 + 1)), .d (nD n), .d (nD a), .d (nD b), .d (webD (Wm (1 + 3 * f) (dArm f))), .d (nD f), .d (nD k), .e, .e, .e]
  refine y_seq (y_set (ev_IC (ev_int (ev_sum (ea_cons ?_)))))
  refine ev_lcM (fun i : Nat => nD (i + 1)) (fun i => nD (f + 1 - (i + 1))) (js := [8]) (by decide) ?_
  walk_at "go"
  refine ⟨_, _, rfl, rfl, ?_⟩
  walk_at "go"
  refine ⟨1, (k : Int) + 1, rfl, by omega, by omega, List.range k, ?_, by simp; omega, ?_, ?_⟩
  · rw [show ((k : Int) + 1 - 1).toNat = k by omega, e1]
  · intro i hi
    walk_at "go"
    refine ⟨_, _, rfl, rfl, ?_⟩
    walk_at "go"
    refine ⟨_, _, rfl, rfl, ?_⟩
    walk_at "go"
    exact ⟨_, _, rfl, nD_eq (by omega), rfl⟩
  walk_at "go"
  refine ⟨(List.range k).map fun i => ((f + 1 - (i + 1) : Nat) : Int), by rw [List.map_map]; rfl, ?_⟩
  rw [sum_cast]
  generalize hS : ((List.range k).map fun i => f + 1 - (i + 1)).sum = S
  refine ⟨_, _, rfl, rfl, .inl ⟨by omega, by omega⟩, ?_⟩
  rw [nD_eq (i := 3 * (S : Int)) (n := 3 * S) (by omega)]
  show Ex K _ _ [.o p (.pot (c + 1 + 1 + 1 + 1 + 1)), .d (nD n), .d (nD a), .d (nD b), .d (webD (Wm (1 + 3 * f) (dArm f))), .d (nD f), .d (nD k), .d (nD (3 * S)), .e, .e]
  refine y_seq (y_set (ev_I (ev_var rfl (ev_IC (ev_int (ev_len (ea_cons ?_)))))))
  refine ev_lcF (fun t : Nat × Nat => tD (t.1 + 1, t.2 + 1)) (fun t => decide (t.1 + 1 + (t.2 + 1) ≤ k)) (fun _ => .int 1) (js := [9]) (by decide) ?_
  walk_at "go"
  refine ⟨f, rfl, by omega, _, rfl, rowsT f fun _ => List.range f, rfl, ?_, ?_, ?_⟩
  · have := rowsT_len (n := f) (m := 13) (row := fun _ => List.range f) fun x => by simp; omega
    have : f * 13 ≤ 13 * 13 := Nat.mul_le_mul_right 13 f2
    omega
  · rintro ⟨x, y⟩ ht
    walk_at "go"
    refine ⟨_, 0, _, rfl, rfl, rfl, ?_⟩
    walk_at "go"
    refine ⟨_, 1, _, rfl, rfl, rfl, _, _, rfl, rfl, ?_⟩
    walk_at "go"
    refine ⟨_, _, rfl, rfl, _, rfl, decide_eq_decide.mpr (by simp only; omega), fun _ => ?_, fun _ => rfl⟩
    walk_at "go"
    exact ⟨rfl, rfl⟩
  walk_at "go"
  refine ⟨_, _, rfl, rfl, ?_⟩
  have cnt := ((of_decide_eq_true (List.all_eq_true.mp (List.all_eq_true.mp arm_count f (List.mem_range.mpr (by omega))) k (List.mem_range.mpr (by omega)))).resolve_left (by omega)).resolve_left (by omega)
  have cnt := cnt.resolve_left (by omega)
  rw [hS] at cnt
  rw [List.length_map]
  generalize hT : ((rowsT f fun _ => List.range f).filter fun t => decide (t.1 + 1 + (t.2 + 1) ≤ k)).length = T at cnt
  refine ⟨_, _, rfl, rfl, .inl ⟨by omega, by omega⟩, _, _, rfl, rfl, ?_⟩
  rw [nD_eq (i := ((3 * S : Nat) : Int) + 3 * (T : Int)) (n := 3 * S + 3 * T) (by omega)]
  walk_at "go"
  refine cl_power MA g1 g2 k1 (by omega) ?_
  walk_at "go"
  refine ⟨_, 1, _, rfl, rfl, rfl, ?_⟩
  walk_at "go"
  refine ⟨_, _, rfl, rfl, ?_⟩
  rw [len_ties, cnt]
  walk_at "go"
  exact ⟨_, eqSc_nD rfl, _, rfl, h _ (by omega)⟩
def A__law_right (ds : List PyData) (c : Nat) (Φ : PyData → Nat → Prop) : Prop := ds = [] ∧ c ≤ 1000 ∧ ∀ c', Φ (.bool true) c'
abbrev sp__law_right : Sp := spP A__law_right
def t__law_right (K : PySem.W.Frag) : TS := (tRet (tAndV (tCall sp__law_are_rings_right [] E0 (tCons (tVar 0) tNil)) (tAndV (tCall sp__law_are_rows_right [] E0 (tCons (tVar 0) tNil)) (tCall sp__law_are_others_right [] E0 (tCons (tVar 0) tNil)))))
def N__law_right : List Str := ["pot"]
theorem len__law_right : ∀ vs H Q E, sp__law_right vs H Q E → vs.length = (["pot"] : List Str).length := lenP fun ds c Φ h => by
  obtain ⟨rfl, hc, h⟩ := h; rfl
theorem rd__law_right {K : PySem.W.Frag} : ∀ vs H Q E, sp__law_right vs H Q E → t__law_right K { nx := fun _ H' => Q .non H', rt := Q } (L2.start N__law_right vs) H := rd_P fun p ds c Φ h => by
  obtain ⟨rfl, hc, h⟩ := h
  show Ex K _ _ [.o p (.pot c)]
  unfold t__law_right
  walk_at "go"
  refine ⟨c, rfl, rfl, by omega, fun c1 h1 => ?_⟩
  refine ⟨true, rfl, fun _ => ?_, nofun⟩
  walk_at "go"
  refine ⟨c1, rfl, rfl, by omega, fun c2 h2 => ?_⟩
  refine ⟨true, rfl, fun _ => ?_, nofun⟩
  walk_at "go"
  exact ⟨c2, rfl, rfl, by omega, fun c3 h3 => ⟨c3, rfl, h c3⟩⟩
def A_law (ns : List Int) (ds : List PyData) (Φ : PyData → Prop) : Prop := ds = [] ∧ Φ (.bool true)
abbrev sp_law (K : PySem.W.Frag) : Sp := spS K A_law
def t_law (K : PySem.W.Frag) : TS := (tRet (tCB (rAll K) (tCons (tLc (iList K (tCall (sp__law_cells K) [] E0 (tCons (tVar 0) (tCons (tC (.int 3)) tNil)))) (gName 1) tYes (tCall sp__law_right [] E0 (tCons (tCall (sp__law_pot K) [] E0 (tCons (tVar 0) (tCons (tVar 1) tNil))) tNil)) [1]) tNil)))
def N_law : List Str := ["script", "place"]
theorem len_law {K : PySem.W.Frag} : ∀ vs H Q E, (sp_law K) vs H Q E → vs.length = (["script"] : List Str).length := lenS fun ns ds Φ h => by
  obtain ⟨rfl, h⟩ := h; rfl
theorem rd_law {K : PySem.W.Frag} : ∀ vs H Q E, (sp_law K) vs H Q E → t_law K { nx := fun _ H' => Q .non H', rt := Q } (L2.start N_law vs) H := rd_S fun ns ds Φ h => by
  obtain ⟨rfl, h⟩ := h
  show Ex K _ _ [.s ns, .e]
  unfold t_law
  refine y_ret (ev_all (ea_cons ?_))
  refine ev_lcM nD (fun _ => .bool true) (js := [1]) (by decide) ?_
  refine ei_list (ev_callS rfl ?_)
  walk_at "go"
  refine ⟨3, rfl, by omega, _, rfl, List.range (max 1 (min 3 ns.length)), rfl, by simp; omega, ?_, ?_⟩
  · intro x hx
    have := List.mem_range.mp hx
    refine eg_name (ev_callPN (en_callS rfl ?_))
    walk_at "go"
    exact ⟨x, rfl, by omega, 0, rfl, rfl, by omega, fun _ => ⟨rfl, rfl⟩⟩
  · walk_at "go"
    refine ⟨(List.range (max 1 (min 3 ns.length))).map fun _ => true, ?_, ?_⟩
    · rw [bools_t]
    · rw [all_map_t]; exact h
end Lp


set_option Elab.async false
set_option linter.all false
set_option maxRecDepth 100000
set_option maxHeartbeats 0
namespace Lp
open PySem PySem.Spec L2
def top (i : Nat) : Stmt := PySem.Challenge.pw_leapsofone_k56_whole_ways_and_powers_by.main.body.getD i (.Pass ⟨0, 0, 0, 0⟩)
abbrev s_is_whole_number : Stmt := top 10
theorem sc_is_whole_number : FnScope N_is_whole_number ["value"] (defScope s_is_whole_number) := ⟨rfl, rfl, rfl, by decide +kernel, rfl, by decide +kernel, by decide +kernel⟩
theorem df_is_whole_number {P : Program} {w : World} {K : PySem.W.Frag} {mg : Str → Option Value} {base : Heap} (hd : ∃ fd, FunD K "is_whole_number" "is_whole_number" (defArgs s_is_whole_number) (defBody s_is_whole_number) (defScope s_is_whole_number) [] [] (He.fAd K ("is_whole_number", none)) fd) (hm : mg "is_whole_number" = some (.ref (He.ga K "is_whole_number"))) (m_isinstance : mg "isinstance" = none) (m_int : mg "int" = none) (m_bool : mg "bool" = none) : Df P w K mg base 1 "is_whole_number" ["value"] sp_is_whole_number :=
  df_mk (t := t_is_whole_number K) hd hm sc_is_whole_number (fun _ _ _ _ _ _ us hl => match us, hl with | [_], _ => rfl) len_is_whole_number (fun cdv A outer s H E hr => by
    exact (pss_one (ps_ret (pe_and (pe_callB call_isi (by rfl) m_isinstance (by decide +kernel) (pa_cons (pv 0) (pa_cons (pe_bltn (v := .ty "int") (by rfl) m_int (by decide +kernel) rfl) pa_nil))) (pe_one (pe_not (pe_callB call_isi (by rfl) m_isinstance (by decide +kernel) (pa_cons (pv 0) (pa_cons (pe_bltn (v := .ty "bool") (by rfl) m_bool (by decide +kernel) rfl) pa_nil))))))))) rd_is_whole_number
abbrev s_is_int : Stmt := top 11
theorem sc_is_int : FnScope N_is_int ["value", "least", "most"] (defScope s_is_int) := ⟨rfl, rfl, rfl, by decide +kernel, rfl, by decide +kernel, by decide +kernel⟩
theorem df_is_int {P : Program} {w : World} {K : PySem.W.Frag} {mg : Str → Option Value} {base : Heap} (hd : ∃ fd, FunD K "is_int" "is_int" (defArgs s_is_int) (defBody s_is_int) (defScope s_is_int) [] [] (He.fAd K ("is_int", none)) fd) (hm : mg "is_int" = some (.ref (He.ga K "is_int"))) (D_is_whole_number : Df P w K mg base 1 "is_whole_number" ["value"] sp_is_whole_number) : Df P w K mg base 2 "is_int" ["value", "least", "most"] sp_is_int :=
  df_mk (t := t_is_int K) hd hm sc_is_int (fun _ _ _ _ _ _ us hl => match us, hl with | [_, _, _], _ => rfl) len_is_int (fun cdv A outer s H E hr => by
    exact (pss_one (ps_ret (pe_and (pe_callF D_is_whole_number hr (by decide) (pa_cons (pv 0) pa_nil)) (pe_one (pe_chain op_le op_le (pv 1) (pv 0) (pv 2))))))) rd_is_int
abbrev s_look_at_int : Stmt := top 12
theorem sc_look_at_int : FnScope N_look_at_int ["value", "least", "most"] (defScope s_look_at_int) := ⟨rfl, rfl, rfl, by decide +kernel, rfl, by decide +kernel, by decide +kernel⟩
theorem df_look_at_int {P : Program} {w : World} {K : PySem.W.Frag} {mg : Str → Option Value} {base : Heap} (hd : ∃ fd, FunD K "look_at_int" "look_at_int" (defArgs s_look_at_int) (defBody s_look_at_int) (defScope s_look_at_int) [] [] (He.fAd K ("look_at_int", none)) fd) (hm : mg "look_at_int" = some (.ref (He.ga K "look_at_int"))) (D_is_int : Df P w K mg base 2 "is_int" ["value", "least", "most"] sp_is_int) : Df P w K mg base 3 "look_at_int" ["value", "least", "most"] sp_look_at_int :=
  df_mk (t := t_look_at_int K) hd hm sc_look_at_int (fun _ _ _ _ _ _ us hl => match us, hl with | [_, _, _], _ => rfl) len_look_at_int (fun cdv A outer s H E hr => by
    exact (pss_one (ps_if (pt_not (pt_val (pe_callF D_is_int hr (by decide) (pa_cons (pv 0) (pa_cons (pv 1) (pa_cons (pv 2) pa_nil)))))) (pss_one ps_never) pss_nil))) rd_look_at_int
abbrev s_is_ascending : Stmt := top 13
theorem sc_is_ascending : FnScope N_is_ascending ["value"] (defScope s_is_ascending) := ⟨rfl, rfl, rfl, by decide +kernel, rfl, by decide +kernel, by decide +kernel⟩
theorem df_is_ascending {P : Program} {w : World} {K : PySem.W.Frag} {mg : Str → Option Value} {base : Heap} (hd : ∃ fd, FunD K "is_ascending" "is_ascending" (defArgs s_is_ascending) (defBody s_is_ascending) (defScope s_is_ascending) [] [] (He.fAd K ("is_ascending", none)) fd) (hm : mg "is_ascending" = some (.ref (He.ga K "is_ascending"))) (m_zip : mg "zip" = none) (m_all : mg "all" = none) : Df P w K mg base 1 "is_ascending" ["value"] sp_is_ascending :=
  df_mk (t := t_is_ascending K) hd hm sc_is_ascending (fun _ _ _ _ _ _ us hl => match us, hl with | [_], _ => rfl) len_is_ascending (fun cdv A outer s H E hr => by
    exact (pss_one (ps_ret (pe_callB (cr_all rfl) (by rfl) m_all (by decide +kernel) (pa_cons (pe_lc (own := [("one", 1), ("other", 2)]) (g := (gTup K 2 (gCons (gName 1) (gCons (gName 2) gNil)))) (tt := tYes) rfl sc_is_ascending.nd (RZ.pi_zipA (by rfl) m_zip (pa_cons (pv 0) (pa_cons (pe_slice sl_tupA (pv 0) (po_some pe_int) po_none) pa_nil))) (blkOk_by (own := [("one", 1), ("other", 2)]) (N := N_is_ascending) (sc := defScope s_is_ascending) (by decide +kernel)) (fun _ _ _ _ _ => (pg_tup rfl (pgs_cons (pg_name (i := 1) sc_is_ascending.nd rfl (Or.inl rfl)) (pgs_cons (pg_name (i := 2) sc_is_ascending.nd rfl (Or.inl rfl)) pgs_nil)))) (fun _ _ _ _ _ => pts_nil) (fun _ _ _ _ _ => (pe_cmpR (op_ltT hr.units0) (pv 1) (pv 2) (nomark _)))) pa_nil))))) rd_is_ascending
abbrev s_is_tie : Stmt := top 14
theorem sc_is_tie : FnScope N_is_tie ["value", "many"] (defScope s_is_tie) := ⟨rfl, rfl, rfl, by decide +kernel, rfl, by decide +kernel, by decide +kernel⟩
theorem df_is_tie {P : Program} {w : World} {K : PySem.W.Frag} {mg : Str → Option Value} {base : Heap} (hd : ∃ fd, FunD K "is_tie" "is_tie" (defArgs s_is_tie) (defBody s_is_tie) (defScope s_is_tie) [] [] (He.fAd K ("is_tie", none)) fd) (hm : mg "is_tie" = some (.ref (He.ga K "is_tie"))) (m_isinstance : mg "isinstance" = none) (m_tuple : mg "tuple" = none) (m_len : mg "len" = none) (m_all : mg "all" = none) (D_is_int : Df P w K mg base 2 "is_int" ["value", "least", "most"] sp_is_int) : Df P w K mg base 3 "is_tie" ["value", "many"] sp_is_tie :=
  df_mk (t := t_is_tie K) hd hm sc_is_tie (fun _ _ _ _ _ _ us hl => match us, hl with | [_, _], _ => rfl) len_is_tie (fun cdv A outer s H E hr => by
    exact (pss_cons (ps_if (PW.pt (pw_or (pt_not (pt_val (pe_callB call_isi (by rfl) m_isinstance (by decide +kernel) (pa_cons (pv 0) (pa_cons (pe_bltn (v := .ty "tuple") (by rfl) m_tuple (by decide +kernel) rfl) pa_nil))))) (pw_or (pt_cmpR op_ne (pe_callB call_len_seq (by rfl) m_len (by decide +kernel) (pa_cons (pv 0) pa_nil)) pe_int (nomark _)) (pw_or1 (pt_not (pt_val (pe_callB (cr_all rfl) (by rfl) m_all (by decide +kernel) (pa_cons (pe_lc (own := [("one", 2)]) (g := (gName 2)) (tt := tYes) rfl sc_is_tie.nd (pi_tup (pv 0)) (blkOk_by (own := [("one", 2)]) (N := N_is_tie) (sc := defScope s_is_tie) (by decide +kernel)) (fun _ _ _ _ _ => (pg_name (i := 2) sc_is_tie.nd rfl (Or.inl rfl))) (fun _ _ _ _ _ => pts_nil) (fun _ _ _ _ _ => (pe_callF D_is_int hr (by decide) (pa_cons (pv 2) (pa_cons pe_int (pa_cons (pe_op op_sub (pv 1) pe_int) pa_nil)))))) pa_nil)))))))) (pss_one (ps_ret pe_bl)) pss_nil) (pss_one (ps_ret (pe_cmpR op_lt (pe_ix ix_tup (pv 0) pe_int (fun _ _ => rfl)) (pe_ix ix_tup (pv 0) pe_int (fun _ _ => rfl)) (nomark _)))))) rd_is_tie
abbrev s_is_told_web : Stmt := top 15
theorem sc_is_told_web : FnScope N_is_told_web ["value"] (defScope s_is_told_web) := ⟨rfl, rfl, rfl, by decide +kernel, rfl, by decide +kernel, by decide +kernel⟩
theorem df_is_told_web {P : Program} {w : World} {K : PySem.W.Frag} {mg : Str → Option Value} {base : Heap} (hd : ∃ fd, FunD K "is_told_web" "is_told_web" (defArgs s_is_told_web) (defBody s_is_told_web) (defScope s_is_told_web) [] [] (He.fAd K ("is_told_web", none)) fd) (hm : mg "is_told_web" = some (.ref (He.ga K "is_told_web"))) (m_isinstance : mg "isinstance" = none) (m_tuple : mg "tuple" = none) (m_len : mg "len" = none) (m_all : mg "all" = none) (c_MOST_PLACES : ∃ t, mg "MOST_PLACES" = some (.int 40 t)) (D_is_int : Df P w K mg base 2 "is_int" ["value", "least", "most"] sp_is_int) (D_is_tie : Df P w K mg base 3 "is_tie" ["value", "many"] sp_is_tie) (D_is_ascending : Df P w K mg base 1 "is_ascending" ["value"] sp_is_ascending) : Df P w K mg base 4 "is_told_web" ["value"] sp_is_told_web :=
  df_mk (t := t_is_told_web K) hd hm sc_is_told_web (fun _ _ _ _ _ _ us hl => match us, hl with | [_], _ => rfl) len_is_told_web (fun cdv A outer s H E hr => by
    exact (pss_cons (ps_if (PW.pt (pw_or (pt_not (pt_val (pe_callB call_isi (by rfl) m_isinstance (by decide +kernel) (pa_cons (pv 0) (pa_cons (pe_bltn (v := .ty "tuple") (by rfl) m_tuple (by decide +kernel) rfl) pa_nil))))) (pw_or (pt_cmpR op_ne (pe_callB call_len_seq (by rfl) m_len (by decide +kernel) (pa_cons (pv 0) pa_nil)) pe_int (nomark _)) (pw_or1 (pt_not (pt_val (pe_callF D_is_int hr (by decide) (pa_cons (pe_ix ix_tup (pv 0) pe_int (fun _ _ => rfl)) (pa_cons pe_int (pa_cons (pe_gint c_MOST_PLACES) pa_nil)))))))))) (pss_one (ps_ret pe_bl)) pss_nil) (pss_cons (ps_if (PW.pt (pw_or (pt_not (pt_val (pe_callB call_isi (by rfl) m_isinstance (by decide +kernel) (pa_cons (pe_ix ix_tup (pv 0) pe_int (fun _ _ => rfl)) (pa_cons (pe_bltn (v := .ty "tuple") (by rfl) m_tuple (by decide +kernel) rfl) pa_nil))))) (pw_or1 (pt_not (pt_val (pe_callB (cr_all rfl) (by rfl) m_all (by decide +kernel) (pa_cons (pe_lc (own := [("one", 1)]) (g := (gName 1)) (tt := tYes) rfl sc_is_told_web.nd (pi_tup (pe_ix ix_tup (pv 0) pe_int (fun _ _ => rfl))) (blkOk_by (own := [("one", 1)]) (N := N_is_told_web) (sc := defScope s_is_told_web) (by decide +kernel)) (fun _ _ _ _ _ => (pg_name (i := 1) sc_is_told_web.nd rfl (Or.inl rfl))) (fun _ _ _ _ _ => pts_nil) (fun _ _ _ _ _ => (pe_callF D_is_tie hr (by decide) (pa_cons (pv 1) (pa_cons (pe_ix ix_tup (pv 0) pe_int (fun _ _ => rfl)) pa_nil))))) pa_nil))))))) (pss_one (ps_ret pe_bl)) pss_nil) (pss_one (ps_ret (pe_callF D_is_ascending hr (by decide) (pa_cons (pe_ix ix_tup (pv 0) pe_int (fun _ _ => rfl)) pa_nil))))))) rd_is_told_web
abbrev s_look_at_web : Stmt := top 16
theorem sc_look_at_web : FnScope N_look_at_web ["web"] (defScope s_look_at_web) := ⟨rfl, rfl, rfl, by decide +kernel, rfl, by decide +kernel, by decide +kernel⟩
theorem df_look_at_web {P : Program} {w : World} {K : PySem.W.Frag} {mg : Str → Option Value} {base : Heap} (hd : ∃ fd, FunD K "look_at_web" "look_at_web" (defArgs s_look_at_web) (defBody s_look_at_web) (defScope s_look_at_web) [] [] (He.fAd K ("look_at_web", none)) fd) (hm : mg "look_at_web" = some (.ref (He.ga K "look_at_web"))) (D_is_told_web : Df P w K mg base 4 "is_told_web" ["value"] sp_is_told_web) : Df P w K mg base 5 "look_at_web" ["web"] sp_look_at_web :=
  df_mk (t := t_look_at_web K) hd hm sc_look_at_web (fun _ _ _ _ _ _ us hl => match us, hl with | [_], _ => rfl) len_look_at_web (fun cdv A outer s H E hr => by
    exact (pss_one (ps_if (pt_not (pt_val (pe_callF D_is_told_web hr (by decide) (pa_cons (pv 0) pa_nil)))) (pss_one ps_never) pss_nil))) rd_look_at_web
abbrev s_look_at_place : Stmt := top 17
theorem sc_look_at_place : FnScope N_look_at_place ["web", "place"] (defScope s_look_at_place) := ⟨rfl, rfl, rfl, by decide +kernel, rfl, by decide +kernel, by decide +kernel⟩
theorem df_look_at_place {P : Program} {w : World} {K : PySem.W.Frag} {mg : Str → Option Value} {base : Heap} (hd : ∃ fd, FunD K "look_at_place" "look_at_place" (defArgs s_look_at_place) (defBody s_look_at_place) (defScope s_look_at_place) [] [] (He.fAd K ("look_at_place", none)) fd) (hm : mg "look_at_place" = some (.ref (He.ga K "look_at_place"))) (D_look_at_web : Df P w K mg base 5 "look_at_web" ["web"] sp_look_at_web) (D_is_int : Df P w K mg base 2 "is_int" ["value", "least", "most"] sp_is_int) : Df P w K mg base 6 "look_at_place" ["web", "place"] sp_look_at_place :=
  df_mk (t := t_look_at_place K) hd hm sc_look_at_place (fun _ _ _ _ _ _ us hl => match us, hl with | [_, _], _ => rfl) len_look_at_place (fun cdv A outer s H E hr => by
    exact (pss_cons (ps_expr (pe_callF D_look_at_web hr (by decide) (pa_cons (pv 0) pa_nil))) (pss_one (ps_if (pt_not (pt_val (pe_callF D_is_int hr (by decide) (pa_cons (pv 1) (pa_cons pe_int (pa_cons (pe_op op_sub (pe_ix ix_tup (pv 0) pe_int (fun _ _ => rfl)) pe_int) pa_nil)))))) (pss_one ps_never) pss_nil)))) rd_look_at_place
abbrev s_look_at_two : Stmt := top 18
theorem sc_look_at_two : FnScope N_look_at_two ["web", "one", "other"] (defScope s_look_at_two) := ⟨rfl, rfl, rfl, by decide +kernel, rfl, by decide +kernel, by decide +kernel⟩
theorem df_look_at_two {P : Program} {w : World} {K : PySem.W.Frag} {mg : Str → Option Value} {base : Heap} (hd : ∃ fd, FunD K "look_at_two" "look_at_two" (defArgs s_look_at_two) (defBody s_look_at_two) (defScope s_look_at_two) [] [] (He.fAd K ("look_at_two", none)) fd) (hm : mg "look_at_two" = some (.ref (He.ga K "look_at_two"))) (D_look_at_place : Df P w K mg base 6 "look_at_place" ["web", "place"] sp_look_at_place) : Df P w K mg base 7 "look_at_two" ["web", "one", "other"] sp_look_at_two :=
  df_mk (t := t_look_at_two K) hd hm sc_look_at_two (fun _ _ _ _ _ _ us hl => match us, hl with | [_, _, _], _ => rfl) len_look_at_two (fun cdv A outer s H E hr => by
    exact (pss_cons (ps_expr (pe_callF D_look_at_place hr (by decide) (pa_cons (pv 0) (pa_cons (pv 1) pa_nil)))) (pss_one (ps_expr (pe_callF D_look_at_place hr (by decide) (pa_cons (pv 0) (pa_cons (pv 2) pa_nil))))))) rd_look_at_two
abbrev s_near_of : Stmt := top 19
theorem sc_near_of : FnScope N_near_of ["web"] (defScope s_near_of) := ⟨rfl, rfl, rfl, by decide +kernel, rfl, by decide +kernel, by decide +kernel⟩
theorem df_near_of {P : Program} {w : World} {K : PySem.W.Frag} {mg : Str → Option Value} {base : Heap} (hd : ∃ fd, FunD K "near_of" "near_of" (defArgs s_near_of) (defBody s_near_of) (defScope s_near_of) [] [] (He.fAd K ("near_of", none)) fd) (hm : mg "near_of" = some (.ref (He.ga K "near_of"))) (m_range : mg "range" = none) (m_sorted : mg "sorted" = none) : Df P w K mg base 1 "near_of" ["web"] sp_near_of :=
  df_mk (t := t_near_of K) hd hm sc_near_of (fun _ _ _ _ _ _ us hl => match us, hl with | [_], _ => rfl) len_near_of (fun cdv A outer s H E hr => by
    exact (pss_cons (ps_setLc (i := 1) (own := [("place", 4)]) (g := (gName 4)) (tt := tYes) (by rfl) sc_near_of.nd rfl rfl (sw_true rfl rfl rfl (by decide +kernel)) (pi_range1 (by rfl) m_range (pa_cons (pe_ix ix_tup (pv 0) pe_int (fun _ _ => rfl)) pa_nil)) (blkOk_by (own := [("place", 4)]) (N := N_near_of) (sc := defScope s_near_of) (by decide +kernel)) (fun _ _ _ _ _ => (pg_name (i := 4) sc_near_of.nd rfl (Or.inl rfl))) (fun _ _ _ _ _ => pts_nil) (fun _ _ _ _ _ => (pe_lst pa_nil))) (pss_cons (ps_for PassesOwn.never rfl (pi_tup (pe_ix ix_tup (pv 0) pe_int (fun _ _ => rfl))) (pg_tup rfl (pgs_cons (pg_name (i := 2) sc_near_of.nd rfl (Or.inl rfl)) (pgs_cons (pg_name (i := 3) sc_near_of.nd rfl (Or.inl rfl)) pgs_nil))) (pss_cons (ps_expr (pe_bm PySem.F.plainAttrs_list PySem.F.slot_list_append PySem.F.type_list_append mt_append (pe_ix ix_list (pv 1) (pv 2) (fun _ _ => rfl)) (pa_cons (pv 3) pa_nil))) (pss_one (ps_expr (pe_bm PySem.F.plainAttrs_list PySem.F.slot_list_append PySem.F.type_list_append mt_append (pe_ix ix_list (pv 1) (pv 3) (fun _ _ => rfl)) (pa_cons (pv 2) pa_nil)))))) (pss_one (ps_ret (pe_lc (own := [("some", 5)]) (g := (gName 5)) (tt := tYes) rfl sc_near_of.nd (pi_list (pv 1)) (blkOk_by (own := [("some", 5)]) (N := N_near_of) (sc := defScope s_near_of) (by decide +kernel)) (fun _ _ _ _ _ => (pg_name (i := 5) sc_near_of.nd rfl (Or.inl rfl))) (fun _ _ _ _ _ => pts_nil) (fun _ _ _ _ _ => (pe_callB cr_sortedI (by rfl) m_sorted (by decide +kernel) (pa_cons (pv 5) pa_nil))))))))) rd_near_of
abbrev s_reached : Stmt := top 20
theorem sc_reached : FnScope N_reached ["near", "start", "barred"] (defScope s_reached) := ⟨rfl, rfl, rfl, by decide +kernel, rfl, by decide +kernel, by decide +kernel⟩
theorem df_reached {P : Program} {w : World} {K : PySem.W.Frag} {mg : Str → Option Value} {base : Heap} (hd : ∃ fd, FunD K "reached" "reached" (defArgs s_reached) (defBody s_reached) (defScope s_reached) [] [] (He.fAd K ("reached", none)) fd) (hm : mg "reached" = some (.ref (He.ga K "reached"))) (m_sorted : mg "sorted" = none) : Df P w K mg base 1 "reached" ["near", "start", "barred"] sp_reached :=
  df_mk (t := t_reached K) hd hm sc_reached (fun _ _ _ _ _ _ us hl => match us, hl with | [_, _, _], _ => rfl) len_reached (fun cdv A outer s H E hr => by
    exact (pss_cons (ps_par (by rfl) sc_reached.nd rfl rfl (by decide) rfl rfl (pa_cons (pe_disp (pps_cons (pv 1) pe_bl pps_nil) (by rfl) (by rfl) (fun z => by cases z) (by decide)) (pa_cons (pe_lst (pa_cons (pv 1) pa_nil)) pa_nil)) (by rfl)) (pss_cons (ps_while PassesOwn.never (pt_cmpR (op_neD hr.units) (pv 4) (pe_lst pa_nil) (nomark _)) (pss_one (ps_for PassesOwn.never rfl (pi_list (pe_ix ix_list (pv 0) (pe_bm0 PySem.F.plainAttrs_list PySem.F.slot_list_pop PySem.F.type_list_pop mt_pop (pv 4)) (fun _ _ => rfl))) (pg_name (i := 5) sc_reached.nd rfl (Or.inl rfl)) (pss_one (ps_if (PW.pt (pw_and (pt_cmp (pc_dnotin (hu_of hr) (pv 5) (pv 3)) (by rfl)) (pw_and1 (pt_cmpR op_notIn_seq (pv 5) (pv 2) (by rfl))))) (pss_cons (ps_dput (hu_of hr) (pv 3) (pv 5) pe_bl rfl) (pss_one (ps_expr (pe_bm PySem.F.plainAttrs_list PySem.F.slot_list_append PySem.F.type_list_append mt_append (pv 4) (pa_cons (pv 5) pa_nil))))) pss_nil))))) (pss_one (ps_ret (pe_callB (call_sortedDI rfl) (by rfl) m_sorted (by decide +kernel) (pa_cons (pv 3) pa_nil))))))) rd_reached
abbrev s_is_joined : Stmt := top 21
theorem sc_is_joined : FnScope N_is_joined ["near"] (defScope s_is_joined) := ⟨rfl, rfl, rfl, by decide +kernel, rfl, by decide +kernel, by decide +kernel⟩
theorem df_is_joined {P : Program} {w : World} {K : PySem.W.Frag} {mg : Str → Option Value} {base : Heap} (hd : ∃ fd, FunD K "is_joined" "is_joined" (defArgs s_is_joined) (defBody s_is_joined) (defScope s_is_joined) [] [] (He.fAd K ("is_joined", none)) fd) (hm : mg "is_joined" = some (.ref (He.ga K "is_joined"))) (m_len : mg "len" = none) (D_reached : Df P w K mg base 1 "reached" ["near", "start", "barred"] sp_reached) : Df P w K mg base 2 "is_joined" ["near"] sp_is_joined :=
  df_mk (t := t_is_joined K) hd hm sc_is_joined (fun _ _ _ _ _ _ us hl => match us, hl with | [_], _ => rfl) len_is_joined (fun cdv A outer s H E hr => by
    exact (pss_one (ps_ret (pe_cmpR op_eq (pe_callB call_len_seq (by rfl) m_len (by decide +kernel) (pa_cons (pe_callF D_reached hr (by decide) (pa_cons (pv 0) (pa_cons pe_int (pa_cons (pe_tup pa_nil) pa_nil)))) pa_nil)) (pe_callB call_len_seq (by rfl) m_len (by decide +kernel) (pa_cons (pv 0) pa_nil)) (nomark _))))) rd_is_joined
abbrev s_look_at_joined : Stmt := top 22
theorem sc_look_at_joined : FnScope N_look_at_joined ["web"] (defScope s_look_at_joined) := ⟨rfl, rfl, rfl, by decide +kernel, rfl, by decide +kernel, by decide +kernel⟩
theorem df_look_at_joined {P : Program} {w : World} {K : PySem.W.Frag} {mg : Str → Option Value} {base : Heap} (hd : ∃ fd, FunD K "look_at_joined" "look_at_joined" (defArgs s_look_at_joined) (defBody s_look_at_joined) (defScope s_look_at_joined) [] [] (He.fAd K ("look_at_joined", none)) fd) (hm : mg "look_at_joined" = some (.ref (He.ga K "look_at_joined"))) (D_look_at_web : Df P w K mg base 5 "look_at_web" ["web"] sp_look_at_web) (D_near_of : Df P w K mg base 1 "near_of" ["web"] sp_near_of) (D_is_joined : Df P w K mg base 2 "is_joined" ["near"] sp_is_joined) : Df P w K mg base 6 "look_at_joined" ["web"] sp_look_at_joined :=
  df_mk (t := t_look_at_joined K) hd hm sc_look_at_joined (fun _ _ _ _ _ _ us hl => match us, hl with | [_], _ => rfl) len_look_at_joined (fun cdv A outer s H E hr => by
    exact (pss_cons (ps_expr (pe_callF D_look_at_web hr (by decide) (pa_cons (pv 0) pa_nil))) (pss_cons (ps_set (i := 1) sc_look_at_joined.nd rfl (Or.inl rfl) (pe_callF D_near_of hr (by decide) (pa_cons (pv 0) pa_nil))) (pss_cons (ps_if (pt_not (pt_val (pe_callF D_is_joined hr (by decide) (pa_cons (pv 1) pa_nil)))) (pss_one ps_never) pss_nil) (pss_one (ps_ret (pv 1))))))) rd_look_at_joined
abbrev s_ways_from : Stmt := top 24
theorem sc_ways_from : FnScope N_ways_from ["near", "start"] (defScope s_ways_from) := ⟨rfl, rfl, rfl, by decide +kernel, rfl, by decide +kernel, by decide +kernel⟩
theorem df_ways_from {P : Program} {w : World} {K : PySem.W.Frag} {mg : Str → Option Value} {base : Heap} (hd : ∃ fd, FunD K "ways_from" "ways_from" (defArgs s_ways_from) (defBody s_ways_from) (defScope s_ways_from) [] [] (He.fAd K ("ways_from", none)) fd) (hm : mg "ways_from" = some (.ref (He.ga K "ways_from"))) : Df P w K mg base 1 "ways_from" ["near", "start"] sp_ways_from :=
  df_mk (t := t_ways_from K) hd hm sc_ways_from (fun _ _ _ _ _ _ us hl => match us, hl with | [_, _], _ => rfl) len_ways_from (fun cdv A outer s H E hr => by
    exact (pss_cons (ps_par (by rfl) sc_ways_from.nd rfl rfl (by decide) rfl rfl (pa_cons (pe_disp (pps_cons (pv 1) pe_int pps_nil) (by rfl) (by rfl) (fun z => by cases z) (by decide)) (pa_cons (pe_lst (pa_cons (pv 1) pa_nil)) pa_nil)) (by rfl)) (pss_cons (ps_while PassesOwn.never (pt_cmpR (op_neD hr.units) (pv 3) (pe_lst pa_nil) (nomark _)) (pss_cons (ps_set (i := 4) sc_ways_from.nd rfl (Or.inl rfl) (pe_lst pa_nil)) (pss_cons (ps_for PassesOwn.never rfl (pi_list (pv 3)) (pg_name (i := 5) sc_ways_from.nd rfl (Or.inl rfl)) (pss_one (ps_for PassesOwn.never rfl (pi_list (pe_ix ix_list (pv 0) (pv 5) (fun _ _ => rfl))) (pg_name (i := 6) sc_ways_from.nd rfl (Or.inl rfl)) (pss_one (ps_if (pt_cmp (pc_dnotin (hu_of hr) (pv 6) (pv 2)) (by rfl)) (pss_cons (ps_dput (hu_of hr) (pv 2) (pv 6) (pe_op op_add (pe_dget (hu_of hr) (pv 2) (pv 5) (fun _ _ => rfl)) pe_int) rfl) (pss_one (ps_expr (pe_bm PySem.F.plainAttrs_list PySem.F.slot_list_append PySem.F.type_list_append mt_append (pv 4) (pa_cons (pv 6) pa_nil))))) pss_nil))))) (pss_one (ps_set (i := 3) sc_ways_from.nd rfl (Or.inl rfl) (pv 4)))))) (pss_one (ps_ret (pv 2)))))) rd_ways_from
abbrev s_told_power : Stmt := top 26
theorem sc_told_power : FnScope N_told_power ["web", "far"] (defScope s_told_power) := ⟨rfl, rfl, rfl, by decide +kernel, rfl, by decide +kernel, by decide +kernel⟩
theorem df_told_power {P : Program} {w : World} {K : PySem.W.Frag} {mg : Str → Option Value} {base : Heap} (hd : ∃ fd, FunD K "told_power" "told_power" (defArgs s_told_power) (defBody s_told_power) (defScope s_told_power) [] [] (He.fAd K ("told_power", none)) fd) (hm : mg "told_power" = some (.ref (He.ga K "told_power"))) (m_range : mg "range" = none) (m_sorted : mg "sorted" = none) (m_tuple : mg "tuple" = none) (D_near_of : Df P w K mg base 1 "near_of" ["web"] sp_near_of) (D_ways_from : Df P w K mg base 1 "ways_from" ["near", "start"] sp_ways_from) : Df P w K mg base 2 "told_power" ["web", "far"] sp_told_power :=
  df_mk (t := t_told_power K) hd hm sc_told_power (fun _ _ _ _ _ _ us hl => match us, hl with | [_, _], _ => rfl) len_told_power (fun cdv A outer s H E hr => by
    exact (pss_cons (ps_par (by rfl) sc_told_power.nd rfl rfl (by decide) rfl rfl (pa_cons (pe_callF D_near_of hr (by decide) (pa_cons (pv 0) pa_nil)) (pa_cons (pe_lst pa_nil) pa_nil)) (by rfl)) (pss_cons (ps_for PassesOwn.never rfl (pi_range1 (by rfl) m_range (pa_cons (pe_ix ix_tup (pv 0) pe_int (fun _ _ => rfl)) pa_nil)) (pg_name (i := 4) sc_told_power.nd rfl (Or.inr rfl)) (pss_cons (ps_set (i := 5) sc_told_power.nd rfl (Or.inr rfl) (pe_callF D_ways_from hr (by decide) (pa_cons (pv 2) (pa_cons (pv 4) pa_nil)))) (pss_one (ps_expr (pe_bm PySem.F.plainAttrs_list PySem.F.slot_list_extend PySem.F.type_list_extend mt_extend (pv 3) (pa_cons (pe_lc (own := [("other", 6)]) (g := (gName 6)) (tt := (tAnd (tTest (tOp (rI0 fun i j => .bl (decide (i < j))) (tVar 4) (tVar 6))) (tTest (tOp (rI0 fun i j => .bl (decide (i ≤ j))) (tDGet (tVar 5) (tVar 6)) (tVar 1))))) rfl sc_told_power.nd (pi_list (pe_callB (call_sortedDI rfl) (by rfl) m_sorted (by decide +kernel) (pa_cons (pv 5) pa_nil))) (blkOk_by (own := [("other", 6)]) (N := N_told_power) (sc := defScope s_told_power) (by decide +kernel)) (fun _ _ _ _ _ => (pg_name (i := 6) sc_told_power.nd rfl (Or.inl rfl))) (fun _ _ _ _ _ => (pts_one (PW.pt (pw_and (pt_cmpR op_lt (pv 4) (pv 6) (nomark _)) (pw_and1 (pt_cmpR op_le (pe_dget (hu_of hr) (pv 5) (pv 6) (fun _ _ => rfl)) (pv 1) (nomark _))))))) (fun _ _ _ _ _ => (pe_tup (pa_cons (pv 4) (pa_cons (pv 6) pa_nil))))) pa_nil)))))) (pss_one (ps_ret (pe_tup (pa_cons (pe_ix ix_tup (pv 0) pe_int (fun _ _ => rfl)) (pa_cons (pe_callTy call_tuple_of (by rfl) m_tuple (by decide +kernel) (pa_cons (pe_callB cr_sortedPO (by rfl) m_sorted (by decide +kernel) (pa_cons (pv 3) pa_nil)) pa_nil)) pa_nil)))))))) rd_told_power
abbrev s_look_at_far : Stmt := top 27
theorem sc_look_at_far : FnScope N_look_at_far ["web", "far"] (defScope s_look_at_far) := ⟨rfl, rfl, rfl, by decide +kernel, rfl, by decide +kernel, by decide +kernel⟩
theorem df_look_at_far {P : Program} {w : World} {K : PySem.W.Frag} {mg : Str → Option Value} {base : Heap} (hd : ∃ fd, FunD K "look_at_far" "look_at_far" (defArgs s_look_at_far) (defBody s_look_at_far) (defScope s_look_at_far) [] [] (He.fAd K ("look_at_far", none)) fd) (hm : mg "look_at_far" = some (.ref (He.ga K "look_at_far"))) (c_MOST_PLACES : ∃ t, mg "MOST_PLACES" = some (.int 40 t)) (D_look_at_web : Df P w K mg base 5 "look_at_web" ["web"] sp_look_at_web) (D_look_at_int : Df P w K mg base 3 "look_at_int" ["value", "least", "most"] sp_look_at_int) : Df P w K mg base 6 "look_at_far" ["web", "far"] sp_look_at_far :=
  df_mk (t := t_look_at_far K) hd hm sc_look_at_far (fun _ _ _ _ _ _ us hl => match us, hl with | [_, _], _ => rfl) len_look_at_far (fun cdv A outer s H E hr => by
    exact (pss_cons (ps_expr (pe_callF D_look_at_web hr (by decide) (pa_cons (pv 0) pa_nil))) (pss_one (ps_expr (pe_callF D_look_at_int hr (by decide) (pa_cons (pv 1) (pa_cons pe_int (pa_cons (pe_gint c_MOST_PLACES) pa_nil)))))))) rd_look_at_far
abbrev s_power : Stmt := top 28
theorem sc_power : FnScope N_power ["web", "far"] (defScope s_power) := ⟨rfl, rfl, rfl, by decide +kernel, rfl, by decide +kernel, by decide +kernel⟩
theorem df_power {P : Program} {w : World} {K : PySem.W.Frag} {mg : Str → Option Value} {base : Heap} (hd : ∃ fd, FunD K "power" "power" (defArgs s_power) (defBody s_power) (defScope s_power) [] [] (He.fAd K ("power", none)) fd) (hm : mg "power" = some (.ref (He.ga K "power"))) (D_look_at_far : Df P w K mg base 6 "look_at_far" ["web", "far"] sp_look_at_far) (D_told_power : Df P w K mg base 2 "told_power" ["web", "far"] sp_told_power) : Df P w K mg base 7 "power" ["web", "far"] sp_power :=
  df_mk (t := t_power K) hd hm sc_power (fun _ _ _ _ _ _ us hl => match us, hl with | [_, _], _ => rfl) len_power (fun cdv A outer s H E hr => by
    exact (pss_cons (ps_expr (pe_callF D_look_at_far hr (by decide) (pa_cons (pv 0) (pa_cons (pv 1) pa_nil)))) (pss_one (ps_ret (pe_callF D_told_power hr (by decide) (pa_cons (pv 0) (pa_cons (pv 1) pa_nil))))))) rd_power
abbrev s_longest_way : Stmt := top 29
theorem sc_longest_way : FnScope N_longest_way ["web"] (defScope s_longest_way) := ⟨rfl, rfl, rfl, by decide +kernel, rfl, by decide +kernel, by decide +kernel⟩
theorem df_longest_way {P : Program} {w : World} {K : PySem.W.Frag} {mg : Str → Option Value} {base : Heap} (hd : ∃ fd, FunD K "longest_way" "longest_way" (defArgs s_longest_way) (defBody s_longest_way) (defScope s_longest_way) [] [] (He.fAd K ("longest_way", none)) fd) (hm : mg "longest_way" = some (.ref (He.ga K "longest_way"))) (m_range : mg "range" = none) (m_max : mg "max" = none) (D_look_at_joined : Df P w K mg base 6 "look_at_joined" ["web"] sp_look_at_joined) (D_ways_from : Df P w K mg base 1 "ways_from" ["near", "start"] sp_ways_from) : Df P w K mg base 7 "longest_way" ["web"] sp_longest_way :=
  df_mk (t := t_longest_way K) hd hm sc_longest_way (fun _ _ _ _ _ _ us hl => match us, hl with | [_], _ => rfl) len_longest_way (fun cdv A outer s H E hr => by
    exact (pss_cons (ps_set (i := 1) sc_longest_way.nd rfl (Or.inr rfl) (pe_callF D_look_at_joined hr (by decide) (pa_cons (pv 0) pa_nil))) (pss_one (ps_ret (pe_callB (cr_max rfl) (by rfl) m_max (by decide +kernel) (pa_cons (pe_lc (own := [("place", 2)]) (g := (gName 2)) (tt := tYes) rfl sc_longest_way.nd (pi_range1 (by rfl) m_range (pa_cons (pe_ix ix_tup (pv 0) pe_int (fun _ _ => rfl)) pa_nil)) (blkOk_by (own := [("place", 2)]) (N := N_longest_way) (sc := defScope s_longest_way) (by decide +kernel)) (fun _ _ _ _ _ => (pg_name (i := 2) sc_longest_way.nd rfl (Or.inl rfl))) (fun _ _ _ _ _ => pts_nil) (fun _ _ _ _ _ => (pe_maxVals rfl (by rfl) m_max (pe_callF D_ways_from hr (by decide) (pa_cons (pv 1) (pa_cons (pv 2) pa_nil)))))) pa_nil)))))) rd_longest_way
abbrev s_is_power_of : Stmt := top 30
theorem sc_is_power_of : FnScope N_is_power_of ["web", "other", "far"] (defScope s_is_power_of) := ⟨rfl, rfl, rfl, by decide +kernel, rfl, by decide +kernel, by decide +kernel⟩
theorem df_is_power_of {P : Program} {w : World} {K : PySem.W.Frag} {mg : Str → Option Value} {base : Heap} (hd : ∃ fd, FunD K "is_power_of" "is_power_of" (defArgs s_is_power_of) (defBody s_is_power_of) (defScope s_is_power_of) [] [] (He.fAd K ("is_power_of", none)) fd) (hm : mg "is_power_of" = some (.ref (He.ga K "is_power_of"))) (D_look_at_far : Df P w K mg base 6 "look_at_far" ["web", "far"] sp_look_at_far) (D_is_told_web : Df P w K mg base 4 "is_told_web" ["value"] sp_is_told_web) (D_told_power : Df P w K mg base 2 "told_power" ["web", "far"] sp_told_power) : Df P w K mg base 7 "is_power_of" ["web", "other", "far"] sp_is_power_of :=
  df_mk (t := t_is_power_of K) hd hm sc_is_power_of (fun _ _ _ _ _ _ us hl => match us, hl with | [_, _, _], _ => rfl) len_is_power_of (fun cdv A outer s H E hr => by
    exact (pss_cons (ps_expr (pe_callF D_look_at_far hr (by decide) (pa_cons (pv 0) (pa_cons (pv 2) pa_nil)))) (pss_cons (ps_if (pt_not (pt_val (pe_callF D_is_told_web hr (by decide) (pa_cons (pv 1) pa_nil)))) (pss_one ps_never) pss_nil) (pss_one (ps_ret (pe_cmpR (op_eqD hr.units) (pe_callF D_told_power hr (by decide) (pa_cons (pv 1) (pa_cons (pv 2) pa_nil))) (pv 0) (nomark _))))))) rd_is_power_of
abbrev s_way : Stmt := top 32
theorem sc_way : FnScope N_way ["web", "one", "other"] (defScope s_way) := ⟨rfl, rfl, rfl, by decide +kernel, rfl, by decide +kernel, by decide +kernel⟩
theorem df_way {P : Program} {w : World} {K : PySem.W.Frag} {mg : Str → Option Value} {base : Heap} (hd : ∃ fd, FunD K "way" "way" (defArgs s_way) (defBody s_way) (defScope s_way) [] [] (He.fAd K ("way", none)) fd) (hm : mg "way" = some (.ref (He.ga K "way"))) (D_look_at_two : Df P w K mg base 7 "look_at_two" ["web", "one", "other"] sp_look_at_two) (D_near_of : Df P w K mg base 1 "near_of" ["web"] sp_near_of) (D_ways_from : Df P w K mg base 1 "ways_from" ["near", "start"] sp_ways_from) : Df P w K mg base 8 "way" ["web", "one", "other"] sp_way :=
  df_mk (t := t_way K) hd hm sc_way (fun _ _ _ _ _ _ us hl => match us, hl with | [_, _, _], _ => rfl) len_way (fun cdv A outer s H E hr => by
    exact (pss_cons (ps_expr (pe_callF D_look_at_two hr (by decide) (pa_cons (pv 0) (pa_cons (pv 1) (pa_cons (pv 2) pa_nil))))) (pss_one (ps_ret (pe_dget1 (hu_of hr) (pe_callF D_ways_from hr (by decide) (pa_cons (pe_callF D_near_of hr (by decide) (pa_cons (pv 0) pa_nil)) (pa_cons (pv 1) pa_nil))) (pv 2) ⟨rfl, rfl, rfl, rfl⟩))))) rd_way
abbrev s_within : Stmt := top 33
theorem sc_within : FnScope N_within ["web", "place", "far"] (defScope s_within) := ⟨rfl, rfl, rfl, by decide +kernel, rfl, by decide +kernel, by decide +kernel⟩
theorem df_within {P : Program} {w : World} {K : PySem.W.Frag} {mg : Str → Option Value} {base : Heap} (hd : ∃ fd, FunD K "within" "within" (defArgs s_within) (defBody s_within) (defScope s_within) [] [] (He.fAd K ("within", none)) fd) (hm : mg "within" = some (.ref (He.ga K "within"))) (m_sorted : mg "sorted" = none) (m_tuple : mg "tuple" = none) (c_MOST_PLACES : ∃ t, mg "MOST_PLACES" = some (.int 40 t)) (D_look_at_place : Df P w K mg base 6 "look_at_place" ["web", "place"] sp_look_at_place) (D_look_at_int : Df P w K mg base 3 "look_at_int" ["value", "least", "most"] sp_look_at_int) (D_near_of : Df P w K mg base 1 "near_of" ["web"] sp_near_of) (D_ways_from : Df P w K mg base 1 "ways_from" ["near", "start"] sp_ways_from) : Df P w K mg base 7 "within" ["web", "place", "far"] sp_within :=
  df_mk (t := t_within K) hd hm sc_within (fun _ _ _ _ _ _ us hl => match us, hl with | [_, _, _], _ => rfl) len_within (fun cdv A outer s H E hr => by
    exact (pss_cons (ps_expr (pe_callF D_look_at_place hr (by decide) (pa_cons (pv 0) (pa_cons (pv 1) pa_nil)))) (pss_cons (ps_expr (pe_callF D_look_at_int hr (by decide) (pa_cons (pv 2) (pa_cons pe_int (pa_cons (pe_gint c_MOST_PLACES) pa_nil))))) (pss_cons (ps_set (i := 3) sc_within.nd rfl (Or.inr rfl) (pe_callF D_ways_from hr (by decide) (pa_cons (pe_callF D_near_of hr (by decide) (pa_cons (pv 0) pa_nil)) (pa_cons (pv 1) pa_nil)))) (pss_one (ps_ret (pe_callTy call_tuple_of (by rfl) m_tuple (by decide +kernel) (pa_cons (pe_lc (own := [("other", 4)]) (g := (gName 4)) (tt := (tTest (tOp (rI0 fun i j => .bl (decide (i ≤ j))) (tDGet (tVar 3) (tVar 4)) (tVar 2)))) rfl sc_within.nd (pi_list (pe_callB (call_sortedDI rfl) (by rfl) m_sorted (by decide +kernel) (pa_cons (pv 3) pa_nil))) (blkOk_by (own := [("other", 4)]) (N := N_within) (sc := defScope s_within) (by decide +kernel)) (fun _ _ _ _ _ => (pg_name (i := 4) sc_within.nd rfl (Or.inl rfl))) (fun _ _ _ _ _ => (pts_one (pt_cmpR op_le (pe_dget (hu_of hr) (pv 3) (pv 4) (fun _ _ => rfl)) (pv 2) (nomark _)))) (fun _ _ _ _ _ => (pv 4))) pa_nil)))))))) rd_within
abbrev s_hangs_together : Stmt := top 34
theorem sc_hangs_together : FnScope N_hangs_together ["web"] (defScope s_hangs_together) := ⟨rfl, rfl, rfl, by decide +kernel, rfl, by decide +kernel, by decide +kernel⟩
theorem df_hangs_together {P : Program} {w : World} {K : PySem.W.Frag} {mg : Str → Option Value} {base : Heap} (hd : ∃ fd, FunD K "hangs_together" "hangs_together" (defArgs s_hangs_together) (defBody s_hangs_together) (defScope s_hangs_together) [] [] (He.fAd K ("hangs_together", none)) fd) (hm : mg "hangs_together" = some (.ref (He.ga K "hangs_together"))) (D_look_at_web : Df P w K mg base 5 "look_at_web" ["web"] sp_look_at_web) (D_near_of : Df P w K mg base 1 "near_of" ["web"] sp_near_of) (D_is_joined : Df P w K mg base 2 "is_joined" ["near"] sp_is_joined) : Df P w K mg base 6 "hangs_together" ["web"] sp_hangs_together :=
  df_mk (t := t_hangs_together K) hd hm sc_hangs_together (fun _ _ _ _ _ _ us hl => match us, hl with | [_], _ => rfl) len_hangs_together (fun cdv A outer s H E hr => by
    exact (pss_cons (ps_expr (pe_callF D_look_at_web hr (by decide) (pa_cons (pv 0) pa_nil))) (pss_one (ps_ret (pe_callF D_is_joined hr (by decide) (pa_cons (pe_callF D_near_of hr (by decide) (pa_cons (pv 0) pa_nil)) pa_nil)))))) rd_hangs_together
abbrev s_tie_of : Stmt := top 35
theorem sc_tie_of : FnScope N_tie_of ["one", "other"] (defScope s_tie_of) := ⟨rfl, rfl, rfl, by decide +kernel, rfl, by decide +kernel, by decide +kernel⟩
theorem df_tie_of {P : Program} {w : World} {K : PySem.W.Frag} {mg : Str → Option Value} {base : Heap} (hd : ∃ fd, FunD K "tie_of" "tie_of" (defArgs s_tie_of) (defBody s_tie_of) (defScope s_tie_of) [] [] (He.fAd K ("tie_of", none)) fd) (hm : mg "tie_of" = some (.ref (He.ga K "tie_of"))) (m_max : mg "max" = none) (m_min : mg "min" = none) : Df P w K mg base 1 "tie_of" ["one", "other"] sp_tie_of :=
  df_mk (t := t_tie_of K) hd hm sc_tie_of (fun _ _ _ _ _ _ us hl => match us, hl with | [_, _], _ => rfl) len_tie_of (fun cdv A outer s H E hr => by
    exact (pss_one (ps_ret (pe_tup (pa_cons (pe_callB (call_min2 rfl) (by rfl) m_min (by decide +kernel) (pa_cons (pv 0) (pa_cons (pv 1) pa_nil))) (pa_cons (pe_callB (call_max2 rfl) (by rfl) m_max (by decide +kernel) (pa_cons (pv 0) (pa_cons (pv 1) pa_nil))) pa_nil)))))) rd_tie_of
abbrev s_told_renamed : Stmt := top 36
theorem sc_told_renamed : FnScope N_told_renamed ["web", "names"] (defScope s_told_renamed) := ⟨rfl, rfl, rfl, by decide +kernel, rfl, by decide +kernel, by decide +kernel⟩
theorem df_told_renamed {P : Program} {w : World} {K : PySem.W.Frag} {mg : Str → Option Value} {base : Heap} (hd : ∃ fd, FunD K "told_renamed" "told_renamed" (defArgs s_told_renamed) (defBody s_told_renamed) (defScope s_told_renamed) [] [] (He.fAd K ("told_renamed", none)) fd) (hm : mg "told_renamed" = some (.ref (He.ga K "told_renamed"))) (m_sorted : mg "sorted" = none) (m_tuple : mg "tuple" = none) (D_tie_of : Df P w K mg base 1 "tie_of" ["one", "other"] sp_tie_of) : Df P w K mg base 2 "told_renamed" ["web", "names"] sp_told_renamed :=
  df_mk (t := t_told_renamed K) hd hm sc_told_renamed (fun _ _ _ _ _ _ us hl => match us, hl with | [_, _], _ => rfl) len_told_renamed (fun cdv A outer s H E hr => by
    exact (pss_one (ps_ret (pe_tup (pa_cons (pe_ix ix_tup (pv 0) pe_int (fun _ _ => rfl)) (pa_cons (pe_callTy call_tuple_of (by rfl) m_tuple (by decide +kernel) (pa_cons (pe_callB cr_sortedPO (by rfl) m_sorted (by decide +kernel) (pa_cons (pe_lc (own := [("one", 2), ("other", 3)]) (g := (gTup K 2 (gCons (gName 2) (gCons (gName 3) gNil)))) (tt := tYes) rfl sc_told_renamed.nd (pi_tup (pe_ix ix_tup (pv 0) pe_int (fun _ _ => rfl))) (blkOk_by (own := [("one", 2), ("other", 3)]) (N := N_told_renamed) (sc := defScope s_told_renamed) (by decide +kernel)) (fun _ _ _ _ _ => (pg_tup rfl (pgs_cons (pg_name (i := 2) sc_told_renamed.nd rfl (Or.inl rfl)) (pgs_cons (pg_name (i := 3) sc_told_renamed.nd rfl (Or.inl rfl)) pgs_nil)))) (fun _ _ _ _ _ => pts_nil) (fun _ _ _ _ _ => (pe_callF D_tie_of hr (by decide) (pa_cons (pe_ix ix_tup (pv 1) (pv 2) (fun _ _ => rfl)) (pa_cons (pe_ix ix_tup (pv 1) (pv 3) (fun _ _ => rfl)) pa_nil))))) pa_nil)) pa_nil)) pa_nil)))))) rd_told_renamed
abbrev s_are_names : Stmt := top 37
theorem sc_are_names : FnScope N_are_names ["value", "many"] (defScope s_are_names) := ⟨rfl, rfl, rfl, by decide +kernel, rfl, by decide +kernel, by decide +kernel⟩
theorem df_are_names {P : Program} {w : World} {K : PySem.W.Frag} {mg : Str → Option Value} {base : Heap} (hd : ∃ fd, FunD K "are_names" "are_names" (defArgs s_are_names) (defBody s_are_names) (defScope s_are_names) [] [] (He.fAd K ("are_names", none)) fd) (hm : mg "are_names" = some (.ref (He.ga K "are_names"))) (m_isinstance : mg "isinstance" = none) (m_tuple : mg "tuple" = none) (m_len : mg "len" = none) (m_all : mg "all" = none) (m_set : mg "set" = none) (D_is_int : Df P w K mg base 2 "is_int" ["value", "least", "most"] sp_is_int) : Df P w K mg base 3 "are_names" ["value", "many"] sp_are_names :=
  df_mk (t := t_are_names K) hd hm sc_are_names (fun _ _ _ _ _ _ us hl => match us, hl with | [_, _], _ => rfl) len_are_names (fun cdv A outer s H E hr => by
    exact (pss_cons (ps_if (PW.pt (pw_or (pt_not (pt_val (pe_callB call_isi (by rfl) m_isinstance (by decide +kernel) (pa_cons (pv 0) (pa_cons (pe_bltn (v := .ty "tuple") (by rfl) m_tuple (by decide +kernel) rfl) pa_nil))))) (pw_or (pt_cmpR op_ne (pe_callB call_len_seq (by rfl) m_len (by decide +kernel) (pa_cons (pv 0) pa_nil)) (pv 1) (nomark _)) (pw_or1 (pt_not (pt_val (pe_callB (cr_all rfl) (by rfl) m_all (by decide +kernel) (pa_cons (pe_lc (own := [("one", 2)]) (g := (gName 2)) (tt := tYes) rfl sc_are_names.nd (pi_tup (pv 0)) (blkOk_by (own := [("one", 2)]) (N := N_are_names) (sc := defScope s_are_names) (by decide +kernel)) (fun _ _ _ _ _ => (pg_name (i := 2) sc_are_names.nd rfl (Or.inl rfl))) (fun _ _ _ _ _ => pts_nil) (fun _ _ _ _ _ => (pe_callF D_is_int hr (by decide) (pa_cons (pv 2) (pa_cons pe_int (pa_cons (pe_op op_sub (pv 1) pe_int) pa_nil)))))) pa_nil)))))))) (pss_one (ps_ret pe_bl)) pss_nil) (pss_one (ps_ret (pe_cmpR op_eq (pe_lenSetT (by rfl) m_len (by rfl) m_set (pv 0)) (pv 1) (nomark _)))))) rd_are_names
abbrev s_renamed : Stmt := top 38
theorem sc_renamed : FnScope N_renamed ["web", "names"] (defScope s_renamed) := ⟨rfl, rfl, rfl, by decide +kernel, rfl, by decide +kernel, by decide +kernel⟩
theorem df_renamed {P : Program} {w : World} {K : PySem.W.Frag} {mg : Str → Option Value} {base : Heap} (hd : ∃ fd, FunD K "renamed" "renamed" (defArgs s_renamed) (defBody s_renamed) (defScope s_renamed) [] [] (He.fAd K ("renamed", none)) fd) (hm : mg "renamed" = some (.ref (He.ga K "renamed"))) (D_look_at_web : Df P w K mg base 5 "look_at_web" ["web"] sp_look_at_web) (D_are_names : Df P w K mg base 3 "are_names" ["value", "many"] sp_are_names) (D_told_renamed : Df P w K mg base 2 "told_renamed" ["web", "names"] sp_told_renamed) : Df P w K mg base 6 "renamed" ["web", "names"] sp_renamed :=
  df_mk (t := t_renamed K) hd hm sc_renamed (fun _ _ _ _ _ _ us hl => match us, hl with | [_, _], _ => rfl) len_renamed (fun cdv A outer s H E hr => by
    exact (pss_cons (ps_expr (pe_callF D_look_at_web hr (by decide) (pa_cons (pv 0) pa_nil))) (pss_cons (ps_if (pt_not (pt_val (pe_callF D_are_names hr (by decide) (pa_cons (pv 1) (pa_cons (pe_ix ix_tup (pv 0) pe_int (fun _ _ => rfl)) pa_nil))))) (pss_one ps_never) pss_nil) (pss_one (ps_ret (pe_callF D_told_renamed hr (by decide) (pa_cons (pv 0) (pa_cons (pv 1) pa_nil)))))))) rd_renamed
abbrev s_is_told_tree : Stmt := top 41
theorem sc_is_told_tree : FnScope N_is_told_tree ["web"] (defScope s_is_told_tree) := ⟨rfl, rfl, rfl, by decide +kernel, rfl, by decide +kernel, by decide +kernel⟩
theorem df_is_told_tree {P : Program} {w : World} {K : PySem.W.Frag} {mg : Str → Option Value} {base : Heap} (hd : ∃ fd, FunD K "is_told_tree" "is_told_tree" (defArgs s_is_told_tree) (defBody s_is_told_tree) (defScope s_is_told_tree) [] [] (He.fAd K ("is_told_tree", none)) fd) (hm : mg "is_told_tree" = some (.ref (He.ga K "is_told_tree"))) (m_len : mg "len" = none) (D_near_of : Df P w K mg base 1 "near_of" ["web"] sp_near_of) (D_is_joined : Df P w K mg base 2 "is_joined" ["near"] sp_is_joined) : Df P w K mg base 3 "is_told_tree" ["web"] sp_is_told_tree :=
  df_mk (t := t_is_told_tree K) hd hm sc_is_told_tree (fun _ _ _ _ _ _ us hl => match us, hl with | [_], _ => rfl) len_is_told_tree (fun cdv A outer s H E hr => by
    exact (pss_one (ps_ret (pe_and (pe_cmpR op_eq (pe_callB call_len_seq (by rfl) m_len (by decide +kernel) (pa_cons (pe_ix ix_tup (pv 0) pe_int (fun _ _ => rfl)) pa_nil)) (pe_op op_sub (pe_ix ix_tup (pv 0) pe_int (fun _ _ => rfl)) pe_int) (nomark _)) (pe_one (pe_callF D_is_joined hr (by decide) (pa_cons (pe_callF D_near_of hr (by decide) (pa_cons (pv 0) pa_nil)) pa_nil))))))) rd_is_told_tree
abbrev s_is_tree : Stmt := top 42
theorem sc_is_tree : FnScope N_is_tree ["value"] (defScope s_is_tree) := ⟨rfl, rfl, rfl, by decide +kernel, rfl, by decide +kernel, by decide +kernel⟩
theorem df_is_tree {P : Program} {w : World} {K : PySem.W.Frag} {mg : Str → Option Value} {base : Heap} (hd : ∃ fd, FunD K "is_tree" "is_tree" (defArgs s_is_tree) (defBody s_is_tree) (defScope s_is_tree) [] [] (He.fAd K ("is_tree", none)) fd) (hm : mg "is_tree" = some (.ref (He.ga K "is_tree"))) (D_is_told_web : Df P w K mg base 4 "is_told_web" ["value"] sp_is_told_web) (D_is_told_tree : Df P w K mg base 3 "is_told_tree" ["web"] sp_is_told_tree) : Df P w K mg base 5 "is_tree" ["value"] sp_is_tree :=
  df_mk (t := t_is_tree K) hd hm sc_is_tree (fun _ _ _ _ _ _ us hl => match us, hl with | [_], _ => rfl) len_is_tree (fun cdv A outer s H E hr => by
    exact (pss_one (ps_ret (pe_and (pe_callF D_is_told_web hr (by decide) (pa_cons (pv 0) pa_nil)) (pe_one (pe_callF D_is_told_tree hr (by decide) (pa_cons (pv 0) pa_nil))))))) rd_is_tree
abbrev s_look_at_tree : Stmt := top 43
theorem sc_look_at_tree : FnScope N_look_at_tree ["web"] (defScope s_look_at_tree) := ⟨rfl, rfl, rfl, by decide +kernel, rfl, by decide +kernel, by decide +kernel⟩
theorem df_look_at_tree {P : Program} {w : World} {K : PySem.W.Frag} {mg : Str → Option Value} {base : Heap} (hd : ∃ fd, FunD K "look_at_tree" "look_at_tree" (defArgs s_look_at_tree) (defBody s_look_at_tree) (defScope s_look_at_tree) [] [] (He.fAd K ("look_at_tree", none)) fd) (hm : mg "look_at_tree" = some (.ref (He.ga K "look_at_tree"))) (D_look_at_web : Df P w K mg base 5 "look_at_web" ["web"] sp_look_at_web) (D_is_told_tree : Df P w K mg base 3 "is_told_tree" ["web"] sp_is_told_tree) (D_near_of : Df P w K mg base 1 "near_of" ["web"] sp_near_of) : Df P w K mg base 6 "look_at_tree" ["web"] sp_look_at_tree :=
  df_mk (t := t_look_at_tree K) hd hm sc_look_at_tree (fun _ _ _ _ _ _ us hl => match us, hl with | [_], _ => rfl) len_look_at_tree (fun cdv A outer s H E hr => by
    exact (pss_cons (ps_expr (pe_callF D_look_at_web hr (by decide) (pa_cons (pv 0) pa_nil))) (pss_cons (ps_if (pt_not (pt_val (pe_callF D_is_told_tree hr (by decide) (pa_cons (pv 0) pa_nil)))) (pss_one ps_never) pss_nil) (pss_one (ps_ret (pe_callF D_near_of hr (by decide) (pa_cons (pv 0) pa_nil))))))) rd_look_at_tree
abbrev s_arms_at : Stmt := top 44
theorem sc_arms_at : FnScope N_arms_at ["near", "place"] (defScope s_arms_at) := ⟨rfl, rfl, rfl, by decide +kernel, rfl, by decide +kernel, by decide +kernel⟩
theorem df_arms_at {P : Program} {w : World} {K : PySem.W.Frag} {mg : Str → Option Value} {base : Heap} (hd : ∃ fd, FunD K "arms_at" "arms_at" (defArgs s_arms_at) (defBody s_arms_at) (defScope s_arms_at) [] [] (He.fAd K ("arms_at", none)) fd) (hm : mg "arms_at" = some (.ref (He.ga K "arms_at"))) : Df P w K mg base 1 "arms_at" ["near", "place"] sp_arms_at :=
  df_mk (t := t_arms_at K) hd hm sc_arms_at (fun _ _ _ _ _ _ us hl => match us, hl with | [_, _], _ => rfl) len_arms_at (fun cdv A outer s H E hr => by
    exact (pss_cons (ps_set (i := 2) sc_arms_at.nd rfl (Or.inl rfl) (pe_lst pa_nil)) (pss_cons (ps_for PassesOwn.never rfl (pi_list (pe_ix ix_list (pv 0) (pv 1) (fun _ _ => rfl))) (pg_name (i := 3) sc_arms_at.nd rfl (Or.inl rfl)) (pss_cons (ps_setLc (i := 4) (own := [("other", 5)]) (g := (gName 5)) (tt := (tTest (tOp rNe (tVar 5) (tVar 1)))) (by rfl) sc_arms_at.nd rfl rfl (sw_true rfl rfl rfl (by decide +kernel)) (pi_list (pe_ix ix_list (pv 0) (pv 3) (fun _ _ => rfl))) (blkOk_by (own := [("other", 5)]) (N := N_arms_at) (sc := defScope s_arms_at) (by decide +kernel)) (fun _ _ _ _ _ => (pg_name (i := 5) sc_arms_at.nd rfl (Or.inl rfl))) (fun _ _ _ _ _ => (pts_one (pt_cmpR op_ne (pv 5) (pv 1) (nomark _)))) (fun _ _ _ _ _ => (pv 5))) (pss_one (ps_expr (pe_bm PySem.F.plainAttrs_list PySem.F.slot_list_extend PySem.F.type_list_extend mt_extend (pv 2) (pa_cons (pe_ifExp (pt_cmpR (op_neD hr.units) (pv 4) (pe_lst pa_nil) (nomark _)) (pe_lst (pa_cons (pe_tup (pa_cons (pv 3) (pa_cons (pe_ix ix_list (pv 4) pe_int (fun _ _ => rfl)) pa_nil))) pa_nil)) (pe_lst pa_nil)) pa_nil)))))) (pss_one (ps_ret (pv 2)))))) rd_arms_at
abbrev s_told_arms : Stmt := top 45
theorem sc_told_arms : FnScope N_told_arms ["near"] (defScope s_told_arms) := ⟨rfl, rfl, rfl, by decide +kernel, rfl, by decide +kernel, by decide +kernel⟩
theorem df_told_arms {P : Program} {w : World} {K : PySem.W.Frag} {mg : Str → Option Value} {base : Heap} (hd : ∃ fd, FunD K "told_arms" "told_arms" (defArgs s_told_arms) (defBody s_told_arms) (defScope s_told_arms) [] [] (He.fAd K ("told_arms", none)) fd) (hm : mg "told_arms" = some (.ref (He.ga K "told_arms"))) (m_len : mg "len" = none) (m_range : mg "range" = none) (m_tuple : mg "tuple" = none) (c_ARMS_MANY : ∃ t, mg "ARMS_MANY" = some (.int 3 t)) (D_arms_at : Df P w K mg base 1 "arms_at" ["near", "place"] sp_arms_at) : Df P w K mg base 2 "told_arms" ["near"] sp_told_arms :=
  df_mk (t := t_told_arms K) hd hm sc_told_arms (fun _ _ _ _ _ _ us hl => match us, hl with | [_], _ => rfl) len_told_arms (fun cdv A outer s H E hr => by
    exact (pss_cons (ps_for PassesOwn.never rfl (pi_range1 (by rfl) m_range (pa_cons (pe_callB call_len_seq (by rfl) m_len (by decide +kernel) (pa_cons (pv 0) pa_nil)) pa_nil)) (pg_name (i := 1) sc_told_arms.nd rfl (Or.inl rfl)) (pss_cons (ps_set (i := 2) sc_told_arms.nd rfl (Or.inl rfl) (pe_callF D_arms_at hr (by decide) (pa_cons (pv 0) (pa_cons (pv 1) pa_nil)))) (pss_one (ps_if (pt_cmpR op_ge (pe_callB call_len_seq (by rfl) m_len (by decide +kernel) (pa_cons (pv 2) pa_nil)) (pe_gint c_ARMS_MANY) (nomark _)) (pss_one (ps_ret (pe_tup (pa_cons (pv 1) (pa_cons (pe_callTy call_tuple_of (by rfl) m_tuple (by decide +kernel) (pa_cons (pe_slice sl_list (pv 2) po_none (po_some (pe_gint c_ARMS_MANY))) pa_nil)) pa_nil))))) pss_nil)))) (pss_one (ps_ret pe_non)))) rd_told_arms
abbrev s_is_hairy_row : Stmt := top 46
theorem sc_is_hairy_row : FnScope N_is_hairy_row ["web"] (defScope s_is_hairy_row) := ⟨rfl, rfl, rfl, by decide +kernel, rfl, by decide +kernel, by decide +kernel⟩
theorem df_is_hairy_row {P : Program} {w : World} {K : PySem.W.Frag} {mg : Str → Option Value} {base : Heap} (hd : ∃ fd, FunD K "is_hairy_row" "is_hairy_row" (defArgs s_is_hairy_row) (defBody s_is_hairy_row) (defScope s_is_hairy_row) [] [] (He.fAd K ("is_hairy_row", none)) fd) (hm : mg "is_hairy_row" = some (.ref (He.ga K "is_hairy_row"))) (D_look_at_tree : Df P w K mg base 6 "look_at_tree" ["web"] sp_look_at_tree) (D_told_arms : Df P w K mg base 2 "told_arms" ["near"] sp_told_arms) : Df P w K mg base 7 "is_hairy_row" ["web"] sp_is_hairy_row :=
  df_mk (t := t_is_hairy_row K) hd hm sc_is_hairy_row (fun _ _ _ _ _ _ us hl => match us, hl with | [_], _ => rfl) len_is_hairy_row (fun cdv A outer s H E hr => by
    exact (pss_one (ps_ret (pe_cmpR op_isN (pe_callF D_told_arms hr (by decide) (pa_cons (pe_callF D_look_at_tree hr (by decide) (pa_cons (pv 0) pa_nil)) pa_nil)) pe_non (nomark _))))) rd_is_hairy_row
abbrev s_long_arms : Stmt := top 47
theorem sc_long_arms : FnScope N_long_arms ["web"] (defScope s_long_arms) := ⟨rfl, rfl, rfl, by decide +kernel, rfl, by decide +kernel, by decide +kernel⟩
theorem df_long_arms {P : Program} {w : World} {K : PySem.W.Frag} {mg : Str → Option Value} {base : Heap} (hd : ∃ fd, FunD K "long_arms" "long_arms" (defArgs s_long_arms) (defBody s_long_arms) (defScope s_long_arms) [] [] (He.fAd K ("long_arms", none)) fd) (hm : mg "long_arms" = some (.ref (He.ga K "long_arms"))) (D_look_at_tree : Df P w K mg base 6 "look_at_tree" ["web"] sp_look_at_tree) (D_told_arms : Df P w K mg base 2 "told_arms" ["near"] sp_told_arms) : Df P w K mg base 7 "long_arms" ["web"] sp_long_arms :=
  df_mk (t := t_long_arms K) hd hm sc_long_arms (fun _ _ _ _ _ _ us hl => match us, hl with | [_], _ => rfl) len_long_arms (fun cdv A outer s H E hr => by
    exact (pss_one (ps_ret (pe_callF D_told_arms hr (by decide) (pa_cons (pe_callF D_look_at_tree hr (by decide) (pa_cons (pv 0) pa_nil)) pa_nil))))) rd_long_arms
abbrev s_middle : Stmt := top 48
theorem sc_middle : FnScope N_middle ["web"] (defScope s_middle) := ⟨rfl, rfl, rfl, by decide +kernel, rfl, by decide +kernel, by decide +kernel⟩
theorem df_middle {P : Program} {w : World} {K : PySem.W.Frag} {mg : Str → Option Value} {base : Heap} (hd : ∃ fd, FunD K "middle" "middle" (defArgs s_middle) (defBody s_middle) (defScope s_middle) [] [] (He.fAd K ("middle", none)) fd) (hm : mg "middle" = some (.ref (He.ga K "middle"))) (m_range : mg "range" = none) (m_max : mg "max" = none) (m_min : mg "min" = none) (m_tuple : mg "tuple" = none) (D_look_at_tree : Df P w K mg base 6 "look_at_tree" ["web"] sp_look_at_tree) (D_ways_from : Df P w K mg base 1 "ways_from" ["near", "start"] sp_ways_from) : Df P w K mg base 7 "middle" ["web"] sp_middle :=
  df_mk (t := t_middle K) hd hm sc_middle (fun _ _ _ _ _ _ us hl => match us, hl with | [_], _ => rfl) len_middle (fun cdv A outer s H E hr => by
    exact (pss_cons (ps_set (i := 1) sc_middle.nd rfl (Or.inr rfl) (pe_callF D_look_at_tree hr (by decide) (pa_cons (pv 0) pa_nil))) (pss_cons (ps_set (i := 2) sc_middle.nd rfl (Or.inr rfl) (pe_lc (own := [("place", 3)]) (g := (gName 3)) (tt := tYes) rfl sc_middle.nd (pi_range1 (by rfl) m_range (pa_cons (pe_ix ix_tup (pv 0) pe_int (fun _ _ => rfl)) pa_nil)) (blkOk_by (own := [("place", 3)]) (N := N_middle) (sc := defScope s_middle) (by decide +kernel)) (fun _ _ _ _ _ => (pg_name (i := 3) sc_middle.nd rfl (Or.inl rfl))) (fun _ _ _ _ _ => pts_nil) (fun _ _ _ _ _ => (pe_maxVals rfl (by rfl) m_max (pe_callF D_ways_from hr (by decide) (pa_cons (pv 1) (pa_cons (pv 3) pa_nil))))))) (pss_one (ps_ret (pe_callTy call_tuple_of (by rfl) m_tuple (by decide +kernel) (pa_cons (pe_lc (own := [("place", 3)]) (g := (gName 3)) (tt := (tTest (tOp rEq (tOp (rIxL K) (tVar 2) (tVar 3)) (tCB (rMin K) (tCons (tVar 2) tNil))))) rfl sc_middle.nd (pi_range1 (by rfl) m_range (pa_cons (pe_ix ix_tup (pv 0) pe_int (fun _ _ => rfl)) pa_nil)) (blkOk_by (own := [("place", 3)]) (N := N_middle) (sc := defScope s_middle) (by decide +kernel)) (fun _ _ _ _ _ => (pg_name (i := 3) sc_middle.nd rfl (Or.inl rfl))) (fun _ _ _ _ _ => (pts_one (pt_cmpR op_eq (pe_ix ix_list (pv 2) (pv 3) (fun _ _ => rfl)) (pe_callB (cr_min rfl) (by rfl) m_min (by decide +kernel) (pa_cons (pv 2) pa_nil)) (nomark _)))) (fun _ _ _ _ _ => (pv 3))) pa_nil))))))) rd_middle
abbrev s_ring_web : Stmt := top 55
theorem sc_ring_web : FnScope N_ring_web ["many"] (defScope s_ring_web) := ⟨rfl, rfl, rfl, by decide +kernel, rfl, by decide +kernel, by decide +kernel⟩
theorem df_ring_web {P : Program} {w : World} {K : PySem.W.Frag} {mg : Str → Option Value} {base : Heap} (hd : ∃ fd, FunD K "ring_web" "ring_web" (defArgs s_ring_web) (defBody s_ring_web) (defScope s_ring_web) [] [] (He.fAd K ("ring_web", none)) fd) (hm : mg "ring_web" = some (.ref (He.ga K "ring_web"))) (m_range : mg "range" = none) (m_sorted : mg "sorted" = none) (m_tuple : mg "tuple" = none) (c_MOST_WEB : ∃ t, mg "MOST_WEB" = some (.int 40 t)) (c_THREE : ∃ t, mg "THREE" = some (.int 3 t)) (D_look_at_int : Df P w K mg base 3 "look_at_int" ["value", "least", "most"] sp_look_at_int) : Df P w K mg base 4 "ring_web" ["many"] sp_ring_web :=
  df_mk (t := t_ring_web K) hd hm sc_ring_web (fun _ _ _ _ _ _ us hl => match us, hl with | [_], _ => rfl) len_ring_web (fun cdv A outer s H E hr => by
    exact (pss_cons (ps_expr (pe_callF D_look_at_int hr (by decide) (pa_cons (pv 0) (pa_cons (pe_gint c_THREE) (pa_cons (pe_gint c_MOST_WEB) pa_nil))))) (pss_one (ps_ret (pe_tup (pa_cons (pv 0) (pa_cons (pe_callTy call_tuple_of (by rfl) m_tuple (by decide +kernel) (pa_cons (pe_callB cr_sortedPO (by rfl) m_sorted (by decide +kernel) (pa_cons (pe_op op_cat (pe_lc (own := [("at", 1)]) (g := (gName 1)) (tt := tYes) rfl sc_ring_web.nd (pi_range1 (by rfl) m_range (pa_cons (pe_op op_sub (pv 0) pe_int) pa_nil)) (blkOk_by (own := [("at", 1)]) (N := N_ring_web) (sc := defScope s_ring_web) (by decide +kernel)) (fun _ _ _ _ _ => (pg_name (i := 1) sc_ring_web.nd rfl (Or.inl rfl))) (fun _ _ _ _ _ => pts_nil) (fun _ _ _ _ _ => (pe_tup (pa_cons (pv 1) (pa_cons (pe_op op_add (pv 1) pe_int) pa_nil))))) (pe_lst (pa_cons (pe_tup (pa_cons pe_int (pa_cons (pe_op op_sub (pv 0) pe_int) pa_nil))) pa_nil))) pa_nil)) pa_nil)) pa_nil))))))) rd_ring_web
abbrev s_row_web : Stmt := top 56
theorem sc_row_web : FnScope N_row_web ["many"] (defScope s_row_web) := ⟨rfl, rfl, rfl, by decide +kernel, rfl, by decide +kernel, by decide +kernel⟩
theorem df_row_web {P : Program} {w : World} {K : PySem.W.Frag} {mg : Str → Option Value} {base : Heap} (hd : ∃ fd, FunD K "row_web" "row_web" (defArgs s_row_web) (defBody s_row_web) (defScope s_row_web) [] [] (He.fAd K ("row_web", none)) fd) (hm : mg "row_web" = some (.ref (He.ga K "row_web"))) (m_range : mg "range" = none) (m_tuple : mg "tuple" = none) (c_MOST_WEB : ∃ t, mg "MOST_WEB" = some (.int 40 t)) (D_look_at_int : Df P w K mg base 3 "look_at_int" ["value", "least", "most"] sp_look_at_int) : Df P w K mg base 4 "row_web" ["many"] sp_row_web :=
  df_mk (t := t_row_web K) hd hm sc_row_web (fun _ _ _ _ _ _ us hl => match us, hl with | [_], _ => rfl) len_row_web (fun cdv A outer s H E hr => by
    exact (pss_cons (ps_expr (pe_callF D_look_at_int hr (by decide) (pa_cons (pv 0) (pa_cons pe_int (pa_cons (pe_gint c_MOST_WEB) pa_nil))))) (pss_one (ps_ret (pe_tup (pa_cons (pv 0) (pa_cons (pe_callTy call_tuple_of (by rfl) m_tuple (by decide +kernel) (pa_cons (pe_lc (own := [("at", 1)]) (g := (gName 1)) (tt := tYes) rfl sc_row_web.nd (pi_range1 (by rfl) m_range (pa_cons (pe_op op_sub (pv 0) pe_int) pa_nil)) (blkOk_by (own := [("at", 1)]) (N := N_row_web) (sc := defScope s_row_web) (by decide +kernel)) (fun _ _ _ _ _ => (pg_name (i := 1) sc_row_web.nd rfl (Or.inl rfl))) (fun _ _ _ _ _ => pts_nil) (fun _ _ _ _ _ => (pe_tup (pa_cons (pv 1) (pa_cons (pe_op op_add (pv 1) pe_int) pa_nil))))) pa_nil)) pa_nil))))))) rd_row_web
abbrev s_full_web : Stmt := top 57
theorem sc_full_web : FnScope N_full_web ["many"] (defScope s_full_web) := ⟨rfl, rfl, rfl, by decide +kernel, rfl, by decide +kernel, by decide +kernel⟩
theorem df_full_web {P : Program} {w : World} {K : PySem.W.Frag} {mg : Str → Option Value} {base : Heap} (hd : ∃ fd, FunD K "full_web" "full_web" (defArgs s_full_web) (defBody s_full_web) (defScope s_full_web) [] [] (He.fAd K ("full_web", none)) fd) (hm : mg "full_web" = some (.ref (He.ga K "full_web"))) (m_range : mg "range" = none) (m_tuple : mg "tuple" = none) (c_MOST_WEB : ∃ t, mg "MOST_WEB" = some (.int 40 t)) (D_look_at_int : Df P w K mg base 3 "look_at_int" ["value", "least", "most"] sp_look_at_int) : Df P w K mg base 4 "full_web" ["many"] sp_full_web :=
  df_mk (t := t_full_web K) hd hm sc_full_web (fun _ _ _ _ _ _ us hl => match us, hl with | [_], _ => rfl) len_full_web (fun cdv A outer s H E hr => by
    exact (pss_cons (ps_expr (pe_callF D_look_at_int hr (by decide) (pa_cons (pv 0) (pa_cons pe_int (pa_cons (pe_gint c_MOST_WEB) pa_nil))))) (pss_one (ps_ret (pe_tup (pa_cons (pv 0) (pa_cons (pe_callTy call_tuple_of (by rfl) m_tuple (by decide +kernel) (pa_cons (pe_lc2 (own := [("one", 1), ("other", 2)]) (g := (gName 1)) (tt := tYes) (vs1 := [2]) rfl sc_full_web.nd (pi_range1 (by rfl) m_range (pa_cons (pv 0) pa_nil)) (blkOk_by (own := [("one", 1), ("other", 2)]) (N := N_full_web) (sc := defScope s_full_web) (by decide +kernel)) (by decide) (fun _ _ _ _ _ => (pg_name (i := 1) sc_full_web.nd rfl (Or.inl rfl))) (fun _ _ _ _ _ => pts_nil) (fun _ _ _ _ _ => (pi_range2 (by rfl) m_range (pa_cons (pe_op op_add (pv 1) pe_int) (pa_cons (pv 0) pa_nil)))) (fun _ _ _ _ _ => (pg_name (i := 2) sc_full_web.nd rfl (Or.inl rfl))) (fun _ _ _ _ _ => pts_nil) (fun _ _ _ _ _ => (pe_tup (pa_cons (pv 1) (pa_cons (pv 2) pa_nil))))) pa_nil)) pa_nil))))))) rd_full_web
abbrev s_two_sided : Stmt := top 58
theorem sc_two_sided : FnScope N_two_sided ["one", "other"] (defScope s_two_sided) := ⟨rfl, rfl, rfl, by decide +kernel, rfl, by decide +kernel, by decide +kernel⟩
theorem df_two_sided {P : Program} {w : World} {K : PySem.W.Frag} {mg : Str → Option Value} {base : Heap} (hd : ∃ fd, FunD K "two_sided" "two_sided" (defArgs s_two_sided) (defBody s_two_sided) (defScope s_two_sided) [] [] (He.fAd K ("two_sided", none)) fd) (hm : mg "two_sided" = some (.ref (He.ga K "two_sided"))) (m_range : mg "range" = none) (m_tuple : mg "tuple" = none) (c_MOST_SIDE : ∃ t, mg "MOST_SIDE" = some (.int 20 t)) (D_look_at_int : Df P w K mg base 3 "look_at_int" ["value", "least", "most"] sp_look_at_int) : Df P w K mg base 4 "two_sided" ["one", "other"] sp_two_sided :=
  df_mk (t := t_two_sided K) hd hm sc_two_sided (fun _ _ _ _ _ _ us hl => match us, hl with | [_, _], _ => rfl) len_two_sided (fun cdv A outer s H E hr => by
    exact (pss_cons (ps_expr (pe_callF D_look_at_int hr (by decide) (pa_cons (pv 0) (pa_cons pe_int (pa_cons (pe_gint c_MOST_SIDE) pa_nil))))) (pss_cons (ps_expr (pe_callF D_look_at_int hr (by decide) (pa_cons (pv 1) (pa_cons pe_int (pa_cons (pe_gint c_MOST_SIDE) pa_nil))))) (pss_one (ps_ret (pe_tup (pa_cons (pe_op op_add (pv 0) (pv 1)) (pa_cons (pe_callTy call_tuple_of (by rfl) m_tuple (by decide +kernel) (pa_cons (pe_lc2 (own := [("mine", 2), ("its", 3)]) (g := (gName 2)) (tt := tYes) (vs1 := [3]) rfl sc_two_sided.nd (pi_range1 (by rfl) m_range (pa_cons (pv 0) pa_nil)) (blkOk_by (own := [("mine", 2), ("its", 3)]) (N := N_two_sided) (sc := defScope s_two_sided) (by decide +kernel)) (by decide) (fun _ _ _ _ _ => (pg_name (i := 2) sc_two_sided.nd rfl (Or.inl rfl))) (fun _ _ _ _ _ => pts_nil) (fun _ _ _ _ _ => (pi_range1 (by rfl) m_range (pa_cons (pv 1) pa_nil))) (fun _ _ _ _ _ => (pg_name (i := 3) sc_two_sided.nd rfl (Or.inl rfl))) (fun _ _ _ _ _ => pts_nil) (fun _ _ _ _ _ => (pe_tup (pa_cons (pv 2) (pa_cons (pe_op op_add (pv 0) (pv 3)) pa_nil))))) pa_nil)) pa_nil)))))))) rd_two_sided
abbrev s_wheel : Stmt := top 59
theorem sc_wheel : FnScope N_wheel ["many"] (defScope s_wheel) := ⟨rfl, rfl, rfl, by decide +kernel, rfl, by decide +kernel, by decide +kernel⟩
theorem df_wheel {P : Program} {w : World} {K : PySem.W.Frag} {mg : Str → Option Value} {base : Heap} (hd : ∃ fd, FunD K "wheel" "wheel" (defArgs s_wheel) (defBody s_wheel) (defScope s_wheel) [] [] (He.fAd K ("wheel", none)) fd) (hm : mg "wheel" = some (.ref (He.ga K "wheel"))) (m_range : mg "range" = none) (m_sorted : mg "sorted" = none) (m_tuple : mg "tuple" = none) (c_MOST_WEB : ∃ t, mg "MOST_WEB" = some (.int 40 t)) (c_FOUR : ∃ t, mg "FOUR" = some (.int 4 t)) (D_look_at_int : Df P w K mg base 3 "look_at_int" ["value", "least", "most"] sp_look_at_int) (D_ring_web : Df P w K mg base 4 "ring_web" ["many"] sp_ring_web) : Df P w K mg base 5 "wheel" ["many"] sp_wheel :=
  df_mk (t := t_wheel K) hd hm sc_wheel (fun _ _ _ _ _ _ us hl => match us, hl with | [_], _ => rfl) len_wheel (fun cdv A outer s H E hr => by
    exact (pss_cons (ps_expr (pe_callF D_look_at_int hr (by decide) (pa_cons (pv 0) (pa_cons (pe_gint c_FOUR) (pa_cons (pe_gint c_MOST_WEB) pa_nil))))) (pss_cons (ps_set (i := 1) sc_wheel.nd rfl (Or.inl rfl) (pe_callF D_ring_web hr (by decide) (pa_cons (pe_op op_sub (pv 0) pe_int) pa_nil))) (pss_one (ps_ret (pe_tup (pa_cons (pv 0) (pa_cons (pe_callTy call_tuple_of (by rfl) m_tuple (by decide +kernel) (pa_cons (pe_callB cr_sortedPO (by rfl) m_sorted (by decide +kernel) (pa_cons (pe_lst (StX.pa_star (pe_ix ix_tup (pv 1) pe_int (fun _ _ => rfl)) (StX.pa_star (pe_lc (own := [("at", 2)]) (g := (gName 2)) (tt := tYes) rfl sc_wheel.nd (pi_range1 (by rfl) m_range (pa_cons (pe_op op_sub (pv 0) pe_int) pa_nil)) (blkOk_by (own := [("at", 2)]) (N := N_wheel) (sc := defScope s_wheel) (by decide +kernel)) (fun _ _ _ _ _ => (pg_name (i := 2) sc_wheel.nd rfl (Or.inl rfl))) (fun _ _ _ _ _ => pts_nil) (fun _ _ _ _ _ => (pe_tup (pa_cons (pv 2) (pa_cons (pe_op op_sub (pv 0) pe_int) pa_nil))))) pa_nil))) pa_nil)) pa_nil)) pa_nil)))))))) rd_wheel
abbrev s_armed : Stmt := top 60
theorem sc_armed : FnScope N_armed ["far"] (defScope s_armed) := ⟨rfl, rfl, rfl, by decide +kernel, rfl, by decide +kernel, by decide +kernel⟩
theorem df_armed {P : Program} {w : World} {K : PySem.W.Frag} {mg : Str → Option Value} {base : Heap} (hd : ∃ fd, FunD K "armed" "armed" (defArgs s_armed) (defBody s_armed) (defScope s_armed) [] [] (He.fAd K ("armed", none)) fd) (hm : mg "armed" = some (.ref (He.ga K "armed"))) (m_range : mg "range" = none) (m_sorted : mg "sorted" = none) (m_tuple : mg "tuple" = none) (c_MOST_ARM : ∃ t, mg "MOST_ARM" = some (.int 13 t)) (c_THREE : ∃ t, mg "THREE" = some (.int 3 t)) (D_look_at_int : Df P w K mg base 3 "look_at_int" ["value", "least", "most"] sp_look_at_int) : Df P w K mg base 4 "armed" ["far"] sp_armed :=
  df_mk (t := t_armed K) hd hm sc_armed (fun _ _ _ _ _ _ us hl => match us, hl with | [_], _ => rfl) len_armed (fun cdv A outer s H E hr => by
    exact (pss_cons (ps_expr (pe_callF D_look_at_int hr (by decide) (pa_cons (pv 0) (pa_cons pe_int (pa_cons (pe_gint c_MOST_ARM) pa_nil))))) (pss_cons (ps_set (i := 1) sc_armed.nd rfl (Or.inl rfl) (pe_lst pa_nil)) (pss_cons (ps_for PassesOwn.never rfl (pi_range1 (by rfl) m_range (pa_cons (pe_gint c_THREE) pa_nil)) (pg_name (i := 2) sc_armed.nd rfl (Or.inl rfl)) (pss_cons (ps_set (i := 3) sc_armed.nd rfl (Or.inl rfl) (pe_op op_add pe_int (pe_op op_mul (pv 2) (pv 0)))) (pss_one (ps_expr (pe_bm PySem.F.plainAttrs_list PySem.F.slot_list_extend PySem.F.type_list_extend mt_extend (pv 1) (pa_cons (pe_lst (pa_cons (pe_tup (pa_cons pe_int (pa_cons (pv 3) pa_nil))) (StX.pa_star (pe_lc (own := [("at", 4)]) (g := (gName 4)) (tt := tYes) rfl sc_armed.nd (pi_range2 (by rfl) m_range (pa_cons (pv 3) (pa_cons (pe_op op_sub (pe_op op_add (pv 3) (pv 0)) pe_int) pa_nil))) (blkOk_by (own := [("at", 4)]) (N := N_armed) (sc := defScope s_armed) (by decide +kernel)) (fun _ _ _ _ _ => (pg_name (i := 4) sc_armed.nd rfl (Or.inl rfl))) (fun _ _ _ _ _ => pts_nil) (fun _ _ _ _ _ => (pe_tup (pa_cons (pv 4) (pa_cons (pe_op op_add (pv 4) pe_int) pa_nil))))) pa_nil))) pa_nil)))))) (pss_one (ps_ret (pe_tup (pa_cons (pe_op op_add pe_int (pe_op op_mul (pe_gint c_THREE) (pv 0))) (pa_cons (pe_callTy call_tuple_of (by rfl) m_tuple (by decide +kernel) (pa_cons (pe_callB cr_sortedPO (by rfl) m_sorted (by decide +kernel) (pa_cons (pv 1) pa_nil)) pa_nil)) pa_nil))))))))) rd_armed
abbrev s__law_take : Stmt := top 62
theorem sc__law_take : FnScope N__law_take ["pot", "upto"] (defScope s__law_take) := ⟨rfl, rfl, rfl, by decide +kernel, rfl, by decide +kernel, by decide +kernel⟩
theorem df__law_take {P : Program} {w : World} {K : PySem.W.Frag} {mg : Str → Option Value} {base : Heap} (hd : ∃ fd, FunD K "_law_take" "_law_take" (defArgs s__law_take) (defBody s__law_take) (defScope s__law_take) [] [] (He.fAd K ("_law_take", none)) fd) (hm : mg "_law_take" = some (.ref (He.ga K "_law_take"))) (m_int : mg "int" = none) : Df P w K mg base 1 "_law_take" ["pot", "upto"] sp__law_take :=
  df_mk (t := t__law_take K) hd hm sc__law_take (fun _ _ _ _ _ _ us hl => match us, hl with | [_, _], _ => rfl) len__law_take (fun cdv A outer s H E hr => by
    exact (pss_cons (ps_if (pt_cmpR op_gt (pe_ix ix_list (pv 0) pe_int (fun _ _ => rfl)) pe_int (nomark _)) (pss_cons (ps_set (i := 2) sc__law_take.nd rfl (Or.inl rfl) (pe_op op_mod (pe_callTy call_int1 (by rfl) m_int (by decide +kernel) (pa_cons (pe_ix ix_list (pv 0) pe_int (fun _ _ => rfl)) pa_nil)) (pv 1))) (pss_cons (ps_asg (pe_op op_fdiv (pe_ix ix_list (pv 0) pe_int (fun _ _ => rfl)) (pv 1)) (pg_sub (pv 0) pe_int set_list)) (pss_one (ps_ret (pv 2))))) pss_nil) (pss_cons (ps_asg (pe_op op_add (pe_ix ix_list (pv 0) pe_int (fun _ _ => rfl)) pe_int) (pg_sub (pv 0) pe_int set_list)) (pss_cons (ps_set (i := 3) sc__law_take.nd rfl (Or.inl rfl) (pe_ix ix_list (pe_lst (pa_cons pe_int (pa_cons pe_int (pa_cons pe_int (pa_cons pe_int (pa_cons pe_int pa_nil)))))) (pe_op op_mod (pe_callTy call_int1 (by rfl) m_int (by decide +kernel) (pa_cons (pe_ix ix_list (pv 0) pe_int (fun _ _ => rfl)) pa_nil)) pe_int) (fun _ _ => rfl))) (pss_cons (ps_set (i := 4) sc__law_take.nd rfl (Or.inl rfl) (pe_op op_mod (pe_callTy call_int1 (by rfl) m_int (by decide +kernel) (pa_cons (pe_op op_powB (pe_callTy call_int1 (by rfl) m_int (by decide +kernel) (pa_cons (pe_op op_add (pe_op op_add (pe_ix ix_list (pv 0) pe_int (fun _ _ => rfl)) (pe_op op_mul (pe_op op_mul pe_int (pe_ix ix_list (pv 0) pe_int (fun _ _ => rfl))) (pe_ix ix_list (pv 0) pe_int (fun _ _ => rfl)))) pe_int) pa_nil)) pe_int) pa_nil)) (pv 3))) (pss_cons (ps_set (i := 4) sc__law_take.nd rfl (Or.inl rfl) (pe_op op_mod (pe_callTy call_int1 (by rfl) m_int (by decide +kernel) (pa_cons (pe_op op_mul (pv 4) (pe_op op_add (pe_op op_mod (pe_callTy call_int1 (by rfl) m_int (by decide +kernel) (pa_cons (pv 4) pa_nil)) pe_int) (pe_op op_mul pe_int (pe_ix ix_list (pv 0) pe_int (fun _ _ => rfl))))) pa_nil)) pe_int)) (pss_one (ps_ret (pe_op op_mod (pe_callTy call_int1 (by rfl) m_int (by decide +kernel) (pa_cons (pe_op op_fdiv (pv 4) pe_int) pa_nil)) (pv 1)))))))))) rd__law_take
abbrev s__law_some : Stmt := top 63
theorem sc__law_some : FnScope N__law_some ["pot", "pool", "many"] (defScope s__law_some) := ⟨rfl, rfl, rfl, by decide +kernel, rfl, by decide +kernel, by decide +kernel⟩
theorem df__law_some {P : Program} {w : World} {K : PySem.W.Frag} {mg : Str → Option Value} {base : Heap} (hd : ∃ fd, FunD K "_law_some" "_law_some" (defArgs s__law_some) (defBody s__law_some) (defScope s__law_some) [] [] (He.fAd K ("_law_some", none)) fd) (hm : mg "_law_some" = some (.ref (He.ga K "_law_some"))) (m_list : mg "list" = none) (m_range : mg "range" = none) (m_len : mg "len" = none) (D__law_take : Df P w K mg base 1 "_law_take" ["pot", "upto"] sp__law_take) : Df P w K mg base 2 "_law_some" ["pot", "pool", "many"] sp__law_some :=
  df_mk (t := t__law_some K) hd hm sc__law_some (fun _ _ _ _ _ _ us hl => match us, hl with | [_, _, _], _ => rfl) len__law_some (fun cdv A outer s H E hr => by
    exact (pss_cons (ps_par (by rfl) sc__law_some.nd rfl rfl (by decide) rfl rfl (pa_cons (pe_callTy call_list_of (by rfl) m_list (by decide +kernel) (pa_cons (pv 1) pa_nil)) (pa_cons (pe_lst pa_nil) pa_nil)) (by rfl)) (pss_cons (ps_for PassesOwn.never rfl (pi_range1 (by rfl) m_range (pa_cons (pv 2) pa_nil)) (pg_name (i := 5) sc__law_some.nd rfl (Or.inl rfl)) (pss_one (ps_expr (pe_bm PySem.F.plainAttrs_list PySem.F.slot_list_append PySem.F.type_list_append mt_append (pv 4) (pa_cons (pe_bm PySem.F.plainAttrs_list PySem.F.slot_list_pop PySem.F.type_list_pop mt_popAt (pv 3) (pa_cons (pe_callF D__law_take hr (by decide) (pa_cons (pv 0) (pa_cons (pe_callB call_len_seq (by rfl) m_len (by decide +kernel) (pa_cons (pv 3) pa_nil)) pa_nil))) pa_nil)) pa_nil))))) (pss_one (ps_ret (pv 4)))))) rd__law_some
abbrev s__law_cells : Stmt := top 64
theorem sc__law_cells : FnScope N__law_cells ["script", "most"] (defScope s__law_cells) := ⟨rfl, rfl, rfl, by decide +kernel, rfl, by decide +kernel, by decide +kernel⟩
theorem df__law_cells {P : Program} {w : World} {K : PySem.W.Frag} {mg : Str → Option Value} {base : Heap} (hd : ∃ fd, FunD K "_law_cells" "_law_cells" (defArgs s__law_cells) (defBody s__law_cells) (defScope s__law_cells) [] [] (He.fAd K ("_law_cells", none)) fd) (hm : mg "_law_cells" = some (.ref (He.ga K "_law_cells"))) (m_len : mg "len" = none) (m_min : mg "min" = none) (m_max : mg "max" = none) (m_range : mg "range" = none) (m_list : mg "list" = none) : Df P w K mg base 1 "_law_cells" ["script", "most"] (sp__law_cells K) :=
  df_mk (t := t__law_cells K) hd hm sc__law_cells (fun _ _ _ _ _ _ us hl => match us, hl with | [_, _], _ => rfl) len__law_cells (fun cdv A outer s H E hr => by
    exact (pss_one (ps_ret (pe_listRg rfl (by rfl) m_list (prg_1 (by rfl) m_range (pe_callB (call_max2 rfl) (by rfl) m_max (by decide +kernel) (pa_cons pe_int (pa_cons (pe_callB (call_min2 rfl) (by rfl) m_min (by decide +kernel) (pa_cons (pv 1) (pa_cons (pe_callB call_len_seq (by rfl) m_len (by decide +kernel) (pa_cons (pv 0) pa_nil)) pa_nil))) pa_nil)))))))) rd__law_cells
abbrev s__law_pot : Stmt := top 65
theorem sc__law_pot : FnScope N__law_pot ["script", "place"] (defScope s__law_pot) := ⟨rfl, rfl, rfl, by decide +kernel, rfl, by decide +kernel, by decide +kernel⟩
theorem df__law_pot {P : Program} {w : World} {K : PySem.W.Frag} {mg : Str → Option Value} {base : Heap} (hd : ∃ fd, FunD K "_law_pot" "_law_pot" (defArgs s__law_pot) (defBody s__law_pot) (defScope s__law_pot) [] [] (He.fAd K ("_law_pot", none)) fd) (hm : mg "_law_pot" = some (.ref (He.ga K "_law_pot"))) (m_len : mg "len" = none) (m_sum : mg "sum" = none) (m_int : mg "int" = none) (m_abs : mg "abs" = none) : Df P w K mg base 1 "_law_pot" ["script", "place"] (sp__law_pot K) :=
  df_mk (t := t__law_pot K) hd hm sc__law_pot (fun _ _ _ _ _ _ us hl => match us, hl with | [_, _], _ => rfl) len__law_pot (fun cdv A outer s H E hr => by
    exact (pss_cons (ps_set (i := 2) sc__law_pot.nd rfl (Or.inl rfl) (pe_ifExp (pt_cmpR op_lt (pv 1) (pe_callB call_len_seq (by rfl) m_len (by decide +kernel) (pa_cons (pv 0) pa_nil)) (nomark _)) (pe_ix ix_list (pv 0) (pv 1) (fun _ _ => rfl)) (pe_op op_add (pe_op op_add (pe_op op_mod (pe_callTy call_int1 (by rfl) m_int (by decide +kernel) (pa_cons (pe_callB (cr_sum rfl) (by rfl) m_sum (by decide +kernel) (pa_cons (pe_slice sl_list (pv 0) po_none (po_some pe_int)) pa_nil)) pa_nil)) pe_int) (pe_op op_mul pe_int (pv 1))) pe_int))) (pss_cons (ps_set (i := 3) sc__law_pot.nd rfl (Or.inl rfl) (pe_op op_mul (pe_op op_mod (pe_callTy call_int1 (by rfl) m_int (by decide +kernel) (pa_cons (pe_callB call_abs (by rfl) m_abs (by decide +kernel) (pa_cons (pv 2) pa_nil)) pa_nil)) (pe_op op_powB (pe_op op_powB pe_int pe_int) pe_int)) (pe_callTy call_int1 (by rfl) m_int (by decide +kernel) (pa_cons (pe_cmpR op_ge (pe_callB call_abs (by rfl) m_abs (by decide +kernel) (pa_cons (pv 2) pa_nil)) (pe_op op_powB pe_int pe_int) (nomark _)) pa_nil)))) (pss_cons (ps_set (i := 4) sc__law_pot.nd rfl (Or.inl rfl) (pe_op op_mod (pe_callTy call_int1 (by rfl) m_int (by decide +kernel) (pa_cons (pv 2) pa_nil)) pe_int)) (pss_one (ps_ret (pe_lst (pa_cons (pv 3) (pa_cons (pe_op op_mod (pe_callTy call_int1 (by rfl) m_int (by decide +kernel) (pa_cons (pe_op op_add (pe_op op_add (pe_op op_mul (pv 4) pe_int) (pe_op op_mul (pe_op op_mul pe_int (pv 1)) (pv 1))) pe_int) pa_nil)) pe_int) (pa_cons pe_int pa_nil)))))))))) rd__law_pot
abbrev s__law_names : Stmt := top 66
theorem sc__law_names : FnScope N__law_names ["pot", "many"] (defScope s__law_names) := ⟨rfl, rfl, rfl, by decide +kernel, rfl, by decide +kernel, by decide +kernel⟩
theorem df__law_names {P : Program} {w : World} {K : PySem.W.Frag} {mg : Str → Option Value} {base : Heap} (hd : ∃ fd, FunD K "_law_names" "_law_names" (defArgs s__law_names) (defBody s__law_names) (defScope s__law_names) [] [] (He.fAd K ("_law_names", none)) fd) (hm : mg "_law_names" = some (.ref (He.ga K "_law_names"))) (m_range : mg "range" = none) (m_list : mg "list" = none) (m_int : mg "int" = none) (m_tuple : mg "tuple" = none) (D__law_some : Df P w K mg base 2 "_law_some" ["pot", "pool", "many"] sp__law_some) : Df P w K mg base 3 "_law_names" ["pot", "many"] sp__law_names :=
  df_mk (t := t__law_names K) hd hm sc__law_names (fun _ _ _ _ _ _ us hl => match us, hl with | [_, _], _ => rfl) len__law_names (fun cdv A outer s H E hr => by
    exact (pss_one (ps_ret (pe_callTy call_tuple_of (by rfl) m_tuple (by decide +kernel) (pa_cons (pe_lc (own := [("name", 2)]) (g := (gName 2)) (tt := tYes) rfl sc__law_names.nd (pi_list (pe_callF D__law_some hr (by decide) (pa_cons (pv 0) (pa_cons (pe_listRg rfl (by rfl) m_list (prg_1 (by rfl) m_range (pv 1))) (pa_cons (pv 1) pa_nil))))) (blkOk_by (own := [("name", 2)]) (N := N__law_names) (sc := defScope s__law_names) (by decide +kernel)) (fun _ _ _ _ _ => (pg_name (i := 2) sc__law_names.nd rfl (Or.inl rfl))) (fun _ _ _ _ _ => pts_nil) (fun _ _ _ _ _ => (pe_callTy call_int1 (by rfl) m_int (by decide +kernel) (pa_cons (pv 2) pa_nil)))) pa_nil))))) rd__law_names
abbrev s__law_are_rings_right : Stmt := top 67
theorem sc__law_are_rings_right : FnScope N__law_are_rings_right ["pot"] (defScope s__law_are_rings_right) := ⟨rfl, rfl, rfl, by decide +kernel, rfl, by decide +kernel, by decide +kernel⟩
theorem df__law_are_rings_right {P : Program} {w : World} {K : PySem.W.Frag} {mg : Str → Option Value} {base : Heap} (hd : ∃ fd, FunD K "_law_are_rings_right" "_law_are_rings_right" (defArgs s__law_are_rings_right) (defBody s__law_are_rings_right) (defScope s__law_are_rings_right) [] [] (He.fAd K ("_law_are_rings_right", none)) fd) (hm : mg "_law_are_rings_right" = some (.ref (He.ga K "_law_are_rings_right"))) (m_int : mg "int" = none) (m_min : mg "min" = none) (m_len : mg "len" = none) (D__law_take : Df P w K mg base 1 "_law_take" ["pot", "upto"] sp__law_take) (D__law_names : Df P w K mg base 3 "_law_names" ["pot", "many"] sp__law_names) (D_ring_web : Df P w K mg base 4 "ring_web" ["many"] sp_ring_web) (D_renamed : Df P w K mg base 6 "renamed" ["web", "names"] sp_renamed) (D_way : Df P w K mg base 8 "way" ["web", "one", "other"] sp_way) (D_longest_way : Df P w K mg base 7 "longest_way" ["web"] sp_longest_way) (D_within : Df P w K mg base 7 "within" ["web", "place", "far"] sp_within) (D_power : Df P w K mg base 7 "power" ["web", "far"] sp_power) : Df P w K mg base 9 "_law_are_rings_right" ["pot"] sp__law_are_rings_right :=
  df_mk (t := t__law_are_rings_right K) hd hm sc__law_are_rings_right (fun _ _ _ _ _ _ us hl => match us, hl with | [_], _ => rfl) len__law_are_rings_right (fun cdv A outer s H E hr => by
    exact (pss_cons (ps_par (by rfl) sc__law_are_rings_right.nd rfl rfl (by decide) rfl rfl (pa_cons (pe_op op_add pe_int (pe_callTy call_int1 (by rfl) m_int (by decide +kernel) (pa_cons (pe_callF D__law_take hr (by decide) (pa_cons (pv 0) (pa_cons pe_int pa_nil))) pa_nil))) (pa_cons (pe_op op_add pe_int (pe_callTy call_int1 (by rfl) m_int (by decide +kernel) (pa_cons (pe_callF D__law_take hr (by decide) (pa_cons (pv 0) (pa_cons pe_int pa_nil))) pa_nil))) pa_nil)) (by rfl)) (pss_cons (ps_par (by rfl) sc__law_are_rings_right.nd rfl rfl (by decide) rfl rfl (pa_cons (pe_callF D_ring_web hr (by decide) (pa_cons (pv 1) pa_nil)) (pa_cons (pe_callF D__law_names hr (by decide) (pa_cons (pv 0) (pa_cons (pv 1) pa_nil))) pa_nil)) (by rfl)) (pss_cons (ps_set (i := 5) sc__law_are_rings_right.nd rfl (Or.inl rfl) (pe_callF D_renamed hr (by decide) (pa_cons (pv 3) (pa_cons (pv 4) pa_nil)))) (pss_cons (ps_par (by rfl) sc__law_are_rings_right.nd rfl rfl (by decide) rfl rfl (pa_cons (pe_callTy call_int1 (by rfl) m_int (by decide +kernel) (pa_cons (pe_callF D__law_take hr (by decide) (pa_cons (pv 0) (pa_cons (pv 1) pa_nil))) pa_nil)) (pa_cons (pe_callTy call_int1 (by rfl) m_int (by decide +kernel) (pa_cons (pe_callF D__law_take hr (by decide) (pa_cons (pv 0) (pa_cons (pv 1) pa_nil))) pa_nil)) pa_nil)) (by rfl)) (pss_cons (ps_set (i := 8) sc__law_are_rings_right.nd rfl (Or.inl rfl) (pe_op op_mod (pe_op op_sub (pv 6) (pv 7)) (pv 1))) (pss_cons (ps_if (PW.pt (pw_or (pt_cmpR op_ne (pe_callF D_way hr (by decide) (pa_cons (pv 5) (pa_cons (pe_ix ix_tup (pv 4) (pv 6) (fun _ _ => rfl)) (pa_cons (pe_ix ix_tup (pv 4) (pv 7) (fun _ _ => rfl)) pa_nil)))) (pe_callB (call_min2 rfl) (by rfl) m_min (by decide +kernel) (pa_cons (pv 8) (pa_cons (pe_op op_sub (pv 1) (pv 8)) pa_nil))) (nomark _)) (pw_or1 (pt_cmpR op_ne (pe_callF D_longest_way hr (by decide) (pa_cons (pv 5) pa_nil)) (pe_op op_fdiv (pv 1) pe_int) (nomark _))))) (pss_one (ps_ret pe_bl)) pss_nil) (pss_cons (ps_if (pt_cmpR op_ne (pe_callB call_len_seq (by rfl) m_len (by decide +kernel) (pa_cons (pe_callF D_within hr (by decide) (pa_cons (pv 5) (pa_cons (pe_ix ix_tup (pv 4) (pv 6) (fun _ _ => rfl)) (pa_cons (pv 2) pa_nil)))) pa_nil)) (pe_callB (call_min2 rfl) (by rfl) m_min (by decide +kernel) (pa_cons (pv 1) (pa_cons (pe_op op_add (pe_op op_mul pe_int (pv 2)) pe_int) pa_nil))) (nomark _)) (pss_one (ps_ret pe_bl)) pss_nil) (pss_cons (ps_set (i := 9) sc__law_are_rings_right.nd rfl (Or.inl rfl) (pe_callF D_power hr (by decide) (pa_cons (pv 3) (pa_cons (pv 2) pa_nil)))) (pss_cons (ps_set (i := 10) sc__law_are_rings_right.nd rfl (Or.inl rfl) (pe_ifExp (pt_cmpR op_le (pv 1) (pe_op op_add (pe_op op_mul pe_int (pv 2)) pe_int) (nomark _)) (pe_op op_fdiv (pe_op op_mul (pv 1) (pe_op op_sub (pv 1) pe_int)) pe_int) (pe_op op_mul (pv 1) (pv 2)))) (pss_cons (ps_if (PW.pt (pw_or (pt_cmpR op_ne (pe_callB call_len_seq (by rfl) m_len (by decide +kernel) (pa_cons (pe_ix ix_tup (pv 9) pe_int (fun _ _ => rfl)) pa_nil)) (pv 10) (nomark _)) (pw_or (pt_cmpR op_ne (pe_callF D_longest_way hr (by decide) (pa_cons (pv 9) pa_nil)) (pe_op op_fdiv (pe_op op_sub (pe_op op_add (pe_op op_fdiv (pv 1) pe_int) (pv 2)) pe_int) (pv 2)) (nomark _)) (pw_or1 (pt_cmpR (op_neD hr.units) (pe_callF D_power hr (by decide) (pa_cons (pv 5) (pa_cons (pv 2) pa_nil))) (pe_callF D_renamed hr (by decide) (pa_cons (pv 9) (pa_cons (pv 4) pa_nil))) (nomark _)))))) (pss_one (ps_ret pe_bl)) pss_nil) (pss_one (ps_ret (pe_ifExp (pt_cmpR op_le (pe_op op_mul pe_int (pv 2)) pe_int (nomark _)) (pe_cmpR (op_eqD hr.units) (pe_callF D_power hr (by decide) (pa_cons (pe_callF D_power hr (by decide) (pa_cons (pv 3) (pa_cons pe_int pa_nil))) (pa_cons (pv 2) pa_nil))) (pe_callF D_power hr (by decide) (pa_cons (pv 3) (pa_cons (pe_op op_mul pe_int (pv 2)) pa_nil))) (nomark _)) pe_bl)))))))))))))) rd__law_are_rings_right
abbrev s__law_are_rows_right : Stmt := top 68
theorem sc__law_are_rows_right : FnScope N__law_are_rows_right ["pot"] (defScope s__law_are_rows_right) := ⟨rfl, rfl, rfl, by decide +kernel, rfl, by decide +kernel, by decide +kernel⟩
theorem df__law_are_rows_right {P : Program} {w : World} {K : PySem.W.Frag} {mg : Str → Option Value} {base : Heap} (hd : ∃ fd, FunD K "_law_are_rows_right" "_law_are_rows_right" (defArgs s__law_are_rows_right) (defBody s__law_are_rows_right) (defScope s__law_are_rows_right) [] [] (He.fAd K ("_law_are_rows_right", none)) fd) (hm : mg "_law_are_rows_right" = some (.ref (He.ga K "_law_are_rows_right"))) (m_int : mg "int" = none) (m_set : mg "set" = none) (m_sorted : mg "sorted" = none) (m_tuple : mg "tuple" = none) (m_range : mg "range" = none) (m_max : mg "max" = none) (m_sum : mg "sum" = none) (m_len : mg "len" = none) (m_min : mg "min" = none) (D__law_take : Df P w K mg base 1 "_law_take" ["pot", "upto"] sp__law_take) (D__law_names : Df P w K mg base 3 "_law_names" ["pot", "many"] sp__law_names) (D_row_web : Df P w K mg base 4 "row_web" ["many"] sp_row_web) (D_renamed : Df P w K mg base 6 "renamed" ["web", "names"] sp_renamed) (D_longest_way : Df P w K mg base 7 "longest_way" ["web"] sp_longest_way) (D_middle : Df P w K mg base 7 "middle" ["web"] sp_middle) (D_power : Df P w K mg base 7 "power" ["web", "far"] sp_power) (D_is_power_of : Df P w K mg base 7 "is_power_of" ["web", "other", "far"] sp_is_power_of) (D_hangs_together : Df P w K mg base 6 "hangs_together" ["web"] sp_hangs_together) (D_full_web : Df P w K mg base 4 "full_web" ["many"] sp_full_web) : Df P w K mg base 8 "_law_are_rows_right" ["pot"] sp__law_are_rows_right :=
  df_mk (t := t__law_are_rows_right K w) hd hm sc__law_are_rows_right (fun _ _ _ _ _ _ us hl => match us, hl with | [_], _ => rfl) len__law_are_rows_right (fun cdv A outer s H E hr => by
    exact (pss_cons (ps_asg (pe_tup (pa_cons (pe_op op_add pe_int (pe_callTy call_int1 (by rfl) m_int (by decide +kernel) (pa_cons (pe_callF D__law_take hr (by decide) (pa_cons (pv 0) (pa_cons pe_int pa_nil))) pa_nil))) (pa_cons (pe_op op_add pe_int (pe_callTy call_int1 (by rfl) m_int (by decide +kernel) (pa_cons (pe_callF D__law_take hr (by decide) (pa_cons (pv 0) (pa_cons pe_int pa_nil))) pa_nil))) pa_nil))) (pg_tup rfl (pgs_cons (pg_name (i := 1) sc__law_are_rows_right.nd rfl (Or.inr rfl)) (pgs_cons (pg_name (i := 2) sc__law_are_rows_right.nd rfl (Or.inl rfl)) pgs_nil)))) (pss_cons (ps_par (by rfl) sc__law_are_rows_right.nd rfl rfl (by decide) rfl rfl (pa_cons (pe_callF D_row_web hr (by decide) (pa_cons (pv 1) pa_nil)) (pa_cons (pe_callF D__law_names hr (by decide) (pa_cons (pv 0) (pa_cons (pv 1) pa_nil))) pa_nil)) (by rfl)) (pss_cons (ps_set (i := 5) sc__law_are_rows_right.nd rfl (Or.inl rfl) (pe_callF D_renamed hr (by decide) (pa_cons (pv 3) (pa_cons (pv 4) pa_nil)))) (pss_cons (ps_if (PW.pt (pw_or (pt_cmpR op_ne (pe_callF D_longest_way hr (by decide) (pa_cons (pv 5) pa_nil)) (pe_op op_sub (pv 1) pe_int) (nomark _)) (pw_or1 (pt_cmpR (op_neD hr.units) (pe_callF D_middle hr (by decide) (pa_cons (pv 5) pa_nil)) (pe_callTy call_tuple_of (by rfl) m_tuple (by decide +kernel) (pa_cons (pe_callB (cr_sortedSet rfl) (by rfl) m_sorted (by decide +kernel) (pa_cons (pe_callTy (cr_setL rfl) (by rfl) m_set (by decide +kernel) (pa_cons (pe_lst (pa_cons (pe_ix ix_tup (pv 4) (pe_op op_fdiv (pe_op op_sub (pv 1) pe_int) pe_int) (fun _ _ => rfl)) (pa_cons (pe_ix ix_tup (pv 4) (pe_op op_fdiv (pv 1) pe_int) (fun _ _ => rfl)) pa_nil))) pa_nil)) pa_nil)) pa_nil)) (nomark _))))) (pss_one (ps_ret pe_bl)) pss_nil) (pss_cons (ps_set (i := 6) sc__law_are_rows_right.nd rfl (Or.inl rfl) (pe_callF D_power hr (by decide) (pa_cons (pv 5) (pa_cons (pv 2) pa_nil)))) (pss_cons (ps_set (i := 7) sc__law_are_rows_right.nd rfl (Or.inl rfl) (pe_callB (cr_sum rfl) (by rfl) m_sum (by decide +kernel) (pa_cons (pe_lc (own := [("gap", 8)]) (g := (gName 8)) (tt := tYes) rfl sc__law_are_rows_right.nd (pi_range2 (by rfl) m_range (pa_cons pe_int (pa_cons (pe_op op_add (pv 2) pe_int) pa_nil))) (blkOk_by (own := [("gap", 8)]) (N := N__law_are_rows_right) (sc := defScope s__law_are_rows_right) (by decide +kernel)) (fun _ _ _ _ _ => (pg_name (i := 8) sc__law_are_rows_right.nd rfl (Or.inl rfl))) (fun _ _ _ _ _ => pts_nil) (fun _ _ _ _ _ => (pe_callB (call_max2 rfl) (by rfl) m_max (by decide +kernel) (pa_cons pe_int (pa_cons (pe_op op_sub (pv 1) (pv 8)) pa_nil))))) pa_nil))) (pss_cons (ps_if (PW.pt (pw_or (pt_cmpR op_ne (pe_callB call_len_seq (by rfl) m_len (by decide +kernel) (pa_cons (pe_ix ix_tup (pv 6) pe_int (fun _ _ => rfl)) pa_nil)) (pv 7) (nomark _)) (pw_or1 (pt_cmpR op_ne (pe_callF D_longest_way hr (by decide) (pa_cons (pv 6) pa_nil)) (pe_op op_fdiv (pe_op op_sub (pe_op op_add (pe_op op_sub (pv 1) pe_int) (pv 2)) pe_int) (pv 2)) (nomark _))))) (pss_one (ps_ret pe_bl)) pss_nil) (pss_cons (ps_if (PW.pt (pw_or (pt_cmpR op_notBl (pe_callF D_is_power_of hr (by decide) (pa_cons (pv 6) (pa_cons (pv 5) (pa_cons (pv 2) pa_nil)))) pe_bl (nomark _)) (pw_or (pt_cmpR op_ne (pe_callF D_is_power_of hr (by decide) (pa_cons (pv 6) (pa_cons (pv 5) (pa_cons (pe_op op_add (pv 2) pe_int) pa_nil)))) (pe_cmpR op_le (pe_op op_sub (pv 1) pe_int) (pv 2) (nomark _)) (nomark _)) (pw_or1 (pt_cmpR op_notBl (pe_callF D_is_power_of hr (by decide) (pa_cons (pv 5) (pa_cons (pv 5) (pa_cons pe_int pa_nil)))) pe_bl (nomark _)))))) (pss_one (ps_ret pe_bl)) pss_nil) (pss_one (ps_ret (pe_and (pe_cmpR op_isBl (pe_callF D_hangs_together hr (by decide) (pa_cons (pv 6) pa_nil)) pe_bl (nomark _)) (pe_one (pe_cmpR (op_eqD hr.units) (pe_callF D_power hr (by decide) (pa_cons (pv 5) (pa_cons (pe_callB (call_min2 rfl) (by rfl) m_min (by decide +kernel) (pa_cons pe_int (pa_cons (pv 1) pa_nil))) pa_nil))) (pe_callF D_full_web hr (by decide) (pa_cons (pv 1) pa_nil)) (nomark _))))))))))))))) rd__law_are_rows_right
abbrev s__law_all_pairs : Stmt := top 70
theorem sc__law_all_pairs : FnScope N__law_all_pairs ["far"] (defScope s__law_all_pairs) := ⟨rfl, rfl, rfl, by decide +kernel, rfl, by decide +kernel, by decide +kernel⟩
theorem df__law_all_pairs {P : Program} {w : World} {K : PySem.W.Frag} {mg : Str → Option Value} {base : Heap} (hd : ∃ fd, FunD K "_law_all_pairs" "_law_all_pairs" (defArgs s__law_all_pairs) (defBody s__law_all_pairs) (defScope s__law_all_pairs) [] [] (He.fAd K ("_law_all_pairs", none)) fd) (hm : mg "_law_all_pairs" = some (.ref (He.ga K "_law_all_pairs"))) (m_range : mg "range" = none) : Df P w K mg base 1 "_law_all_pairs" ["far"] sp__law_all_pairs :=
  df_mk (t := t__law_all_pairs K) hd hm sc__law_all_pairs (fun _ _ _ _ _ _ us hl => match us, hl with | [_], _ => rfl) len__law_all_pairs (fun cdv A outer s H E hr => by
    exact (pss_cons (ps_set (i := 1) sc__law_all_pairs.nd rfl (Or.inl rfl) (pe_lst pa_nil)) (pss_cons (ps_for PassesOwn.never rfl (pi_range2 (by rfl) m_range (pa_cons pe_int (pa_cons (pe_op op_add (pv 0) pe_int) pa_nil))) (pg_name (i := 2) sc__law_all_pairs.nd rfl (Or.inr rfl)) (pss_one (ps_expr (pe_bm PySem.F.plainAttrs_list PySem.F.slot_list_extend PySem.F.type_list_extend mt_extend (pv 1) (pa_cons (pe_lc (own := [("other", 3)]) (g := (gName 3)) (tt := tYes) rfl sc__law_all_pairs.nd (pi_range2 (by rfl) m_range (pa_cons pe_int (pa_cons (pe_op op_add (pv 0) pe_int) pa_nil))) (blkOk_by (own := [("other", 3)]) (N := N__law_all_pairs) (sc := defScope s__law_all_pairs) (by decide +kernel)) (fun _ _ _ _ _ => (pg_name (i := 3) sc__law_all_pairs.nd rfl (Or.inl rfl))) (fun _ _ _ _ _ => pts_nil) (fun _ _ _ _ _ => (pe_tup (pa_cons (pv 2) (pa_cons (pv 3) pa_nil))))) pa_nil))))) (pss_one (ps_ret (pv 1)))))) rd__law_all_pairs
abbrev s__law_are_others_right : Stmt := top 69
theorem sc__law_are_others_right : FnScope N__law_are_others_right ["pot"] (defScope s__law_are_others_right) := ⟨rfl, rfl, rfl, by decide +kernel, rfl, by decide +kernel, by decide +kernel⟩
theorem df__law_are_others_right {P : Program} {w : World} {K : PySem.W.Frag} {mg : Str → Option Value} {base : Heap} (hd : ∃ fd, FunD K "_law_are_others_right" "_law_are_others_right" (defArgs s__law_are_others_right) (defBody s__law_are_others_right) (defScope s__law_are_others_right) [] [] (He.fAd K ("_law_are_others_right", none)) fd) (hm : mg "_law_are_others_right" = some (.ref (He.ga K "_law_are_others_right"))) (m_int : mg "int" = none) (m_len : mg "len" = none) (m_range : mg "range" = none) (m_max : mg "max" = none) (m_sum : mg "sum" = none) (D__law_take : Df P w K mg base 1 "_law_take" ["pot", "upto"] sp__law_take) (D_wheel : Df P w K mg base 5 "wheel" ["many"] sp_wheel) (D_longest_way : Df P w K mg base 7 "longest_way" ["web"] sp_longest_way) (D_within : Df P w K mg base 7 "within" ["web", "place", "far"] sp_within) (D_power : Df P w K mg base 7 "power" ["web", "far"] sp_power) (D_full_web : Df P w K mg base 4 "full_web" ["many"] sp_full_web) (D_two_sided : Df P w K mg base 4 "two_sided" ["one", "other"] sp_two_sided) (D_way : Df P w K mg base 8 "way" ["web", "one", "other"] sp_way) (D_armed : Df P w K mg base 4 "armed" ["far"] sp_armed) (D_is_tree : Df P w K mg base 5 "is_tree" ["value"] sp_is_tree) (D_middle : Df P w K mg base 7 "middle" ["web"] sp_middle) (D_is_hairy_row : Df P w K mg base 7 "is_hairy_row" ["web"] sp_is_hairy_row) (D_long_arms : Df P w K mg base 7 "long_arms" ["web"] sp_long_arms) (D__law_all_pairs : Df P w K mg base 1 "_law_all_pairs" ["far"] sp__law_all_pairs) : Df P w K mg base 9 "_law_are_others_right" ["pot"] sp__law_are_others_right :=
  df_mk (t := t__law_are_others_right K) hd hm sc__law_are_others_right (fun _ _ _ _ _ _ us hl => match us, hl with | [_], _ => rfl) len__law_are_others_right (fun cdv A outer s H E hr => by
    exact (pss_cons (ps_set (i := 1) sc__law_are_others_right.nd rfl (Or.inl rfl) (pe_op op_add pe_int (pe_callTy call_int1 (by rfl) m_int (by decide +kernel) (pa_cons (pe_callF D__law_take hr (by decide) (pa_cons (pv 0) (pa_cons pe_int pa_nil))) pa_nil)))) (pss_cons (ps_if (PW.pt (pw_or (pt_cmpR op_ne (pe_callF D_longest_way hr (by decide) (pa_cons (pe_callF D_wheel hr (by decide) (pa_cons (pv 1) pa_nil)) pa_nil)) pe_int (nomark _)) (pw_or (pt_cmpR op_ne (pe_callB call_len_seq (by rfl) m_len (by decide +kernel) (pa_cons (pe_callF D_within hr (by decide) (pa_cons (pe_callF D_wheel hr (by decide) (pa_cons (pv 1) pa_nil)) (pa_cons pe_int (pa_cons pe_int pa_nil)))) pa_nil)) pe_int (nomark _)) (pw_or1 (pt_cmpR (op_neD hr.units) (pe_callF D_power hr (by decide) (pa_cons (pe_callF D_wheel hr (by decide) (pa_cons (pv 1) pa_nil)) (pa_cons pe_int pa_nil))) (pe_callF D_full_web hr (by decide) (pa_cons (pv 1) pa_nil)) (nomark _)))))) (pss_one (ps_ret pe_bl)) pss_nil) (pss_cons (ps_par (by rfl) sc__law_are_others_right.nd rfl rfl (by decide) rfl rfl (pa_cons (pe_op op_add pe_int (pe_callTy call_int1 (by rfl) m_int (by decide +kernel) (pa_cons (pe_callF D__law_take hr (by decide) (pa_cons (pv 0) (pa_cons pe_int pa_nil))) pa_nil))) (pa_cons (pe_op op_add pe_int (pe_callTy call_int1 (by rfl) m_int (by decide +kernel) (pa_cons (pe_callF D__law_take hr (by decide) (pa_cons (pv 0) (pa_cons pe_int pa_nil))) pa_nil))) pa_nil)) (by rfl)) (pss_cons (ps_set (i := 4) sc__law_are_others_right.nd rfl (Or.inl rfl) (pe_callF D_two_sided hr (by decide) (pa_cons (pv 2) (pa_cons (pv 3) pa_nil)))) (pss_cons (ps_if (PW.pt (pw_or (pt_cmpR op_ne (pe_callF D_longest_way hr (by decide) (pa_cons (pv 4) pa_nil)) pe_int (nomark _)) (pw_or (pt_cmpR op_ne (pe_callB call_len_seq (by rfl) m_len (by decide +kernel) (pa_cons (pe_callF D_within hr (by decide) (pa_cons (pv 4) (pa_cons pe_int (pa_cons pe_int pa_nil)))) pa_nil)) (pe_op op_add (pv 3) pe_int) (nomark _)) (pw_or1 (pt_cmpR op_ne (pe_callF D_way hr (by decide) (pa_cons (pv 4) (pa_cons (pv 2) (pa_cons (pe_op op_sub (pe_op op_add (pv 2) (pv 3)) pe_int) pa_nil)))) pe_int (nomark _)))))) (pss_one (ps_ret pe_bl)) pss_nil) (pss_cons (ps_set (i := 5) sc__law_are_others_right.nd rfl (Or.inr rfl) (pe_op op_add pe_int (pe_callTy call_int1 (by rfl) m_int (by decide +kernel) (pa_cons (pe_callF D__law_take hr (by decide) (pa_cons (pv 0) (pa_cons pe_int pa_nil))) pa_nil)))) (pss_cons (ps_set (i := 4) sc__law_are_others_right.nd rfl (Or.inl rfl) (pe_callF D_armed hr (by decide) (pa_cons (pv 5) pa_nil))) (pss_cons (ps_if (PW.pt (pw_or (pt_cmpR op_notBl (pe_callF D_is_tree hr (by decide) (pa_cons (pv 4) pa_nil)) pe_bl (nomark _)) (pw_or (pt_cmpR op_ne (pe_ix ix_tup (pv 4) pe_int (fun _ _ => rfl)) (pe_op op_add (pe_op op_mul pe_int (pv 5)) pe_int) (nomark _)) (pw_or (pt_cmpR op_ne (pe_callF D_longest_way hr (by decide) (pa_cons (pv 4) pa_nil)) (pe_op op_mul pe_int (pv 5)) (nomark _)) (pw_or1 (pt_cmpR (op_neD hr.units) (pe_callF D_middle hr (by decide) (pa_cons (pv 4) pa_nil)) (pe_tup (pa_cons pe_int pa_nil)) (nomark _))))))) (pss_one (ps_ret pe_bl)) pss_nil) (pss_cons (ps_if (PW.pt (pw_or (pt_cmpR op_ne (pe_callF D_is_hairy_row hr (by decide) (pa_cons (pv 4) pa_nil)) (pe_cmpR op_eq (pv 5) pe_int (nomark _)) (nomark _)) (pw_or (pt_cmpR op_ne (pe_cmpR op_isN (pe_callF D_long_arms hr (by decide) (pa_cons (pv 4) pa_nil)) pe_non (nomark _)) (pe_cmpR op_eq (pv 5) pe_int (nomark _)) (nomark _)) (pw_or (pt_cmpR op_ne (pe_callF D_way hr (by decide) (pa_cons (pv 4) (pa_cons (pv 5) (pa_cons (pe_op op_mul pe_int (pv 5)) pa_nil)))) (pe_op op_mul pe_int (pv 5)) (nomark _)) (pw_or1 (pt_cmpR op_ne (pe_callF D_way hr (by decide) (pa_cons (pv 4) (pa_cons pe_int (pa_cons (pe_op op_mul pe_int (pv 5)) pa_nil)))) (pv 5) (nomark _))))))) (pss_one (ps_ret pe_bl)) pss_nil) (pss_cons (ps_set (i := 6) sc__law_are_others_right.nd rfl (Or.inr rfl) (pe_op op_add pe_int (pe_callTy call_int1 (by rfl) m_int (by decide +kernel) (pa_cons (pe_callF D__law_take hr (by decide) (pa_cons (pv 0) (pa_cons (pv 5) pa_nil))) pa_nil)))) (pss_cons (ps_set (i := 7) sc__law_are_others_right.nd rfl (Or.inl rfl) (pe_op op_mul pe_int (pe_callB (cr_sum rfl) (by rfl) m_sum (by decide +kernel) (pa_cons (pe_lc (own := [("gap", 8)]) (g := (gName 8)) (tt := tYes) rfl sc__law_are_others_right.nd (pi_range2 (by rfl) m_range (pa_cons pe_int (pa_cons (pe_op op_add (pv 6) pe_int) pa_nil))) (blkOk_by (own := [("gap", 8)]) (N := N__law_are_others_right) (sc := defScope s__law_are_others_right) (by decide +kernel)) (fun _ _ _ _ _ => (pg_name (i := 8) sc__law_are_others_right.nd rfl (Or.inl rfl))) (fun _ _ _ _ _ => pts_nil) (fun _ _ _ _ _ => (pe_callB (call_max2 rfl) (by rfl) m_max (by decide +kernel) (pa_cons pe_int (pa_cons (pe_op op_sub (pe_op op_add (pv 5) pe_int) (pv 8)) pa_nil))))) pa_nil)))) (pss_cons (ps_set (i := 7) sc__law_are_others_right.nd rfl (Or.inl rfl) (pe_op op_add (pv 7) (pe_op op_mul pe_int (pe_callB call_len_seq (by rfl) m_len (by decide +kernel) (pa_cons (pe_lc (own := [("pair", 9)]) (g := (gName 9)) (tt := (tTest (tOp (rI0 fun i j => .bl (decide (i ≤ j))) (tOp (rI0 fun i j => .int (i + j)) (tOp (rIxT K) (tVar 9) (tC (.int 0))) (tOp (rIxT K) (tVar 9) (tC (.int 1)))) (tVar 6)))) rfl sc__law_are_others_right.nd (pi_list (pe_callF D__law_all_pairs hr (by decide) (pa_cons (pv 5) pa_nil))) (blkOk_by (own := [("pair", 9)]) (N := N__law_are_others_right) (sc := defScope s__law_are_others_right) (by decide +kernel)) (fun _ _ _ _ _ => (pg_name (i := 9) sc__law_are_others_right.nd rfl (Or.inl rfl))) (fun _ _ _ _ _ => (pts_one (pt_cmpR op_le (pe_op op_add (pe_ix ix_tup (pv 9) pe_int (fun _ _ => rfl)) (pe_ix ix_tup (pv 9) pe_int (fun _ _ => rfl))) (pv 6) (nomark _)))) (fun _ _ _ _ _ => pe_int)) pa_nil))))) (pss_one (ps_ret (pe_cmpR op_eq (pe_callB call_len_seq (by rfl) m_len (by decide +kernel) (pa_cons (pe_ix ix_tup (pe_callF D_power hr (by decide) (pa_cons (pv 4) (pa_cons (pv 6) pa_nil))) pe_int (fun _ _ => rfl)) pa_nil)) (pv 7) (nomark _))))))))))))))))) rd__law_are_others_right
abbrev s__law_right : Stmt := top 71
theorem sc__law_right : FnScope N__law_right ["pot"] (defScope s__law_right) := ⟨rfl, rfl, rfl, by decide +kernel, rfl, by decide +kernel, by decide +kernel⟩
theorem df__law_right {P : Program} {w : World} {K : PySem.W.Frag} {mg : Str → Option Value} {base : Heap} (hd : ∃ fd, FunD K "_law_right" "_law_right" (defArgs s__law_right) (defBody s__law_right) (defScope s__law_right) [] [] (He.fAd K ("_law_right", none)) fd) (hm : mg "_law_right" = some (.ref (He.ga K "_law_right"))) (D__law_are_rings_right : Df P w K mg base 9 "_law_are_rings_right" ["pot"] sp__law_are_rings_right) (D__law_are_rows_right : Df P w K mg base 8 "_law_are_rows_right" ["pot"] sp__law_are_rows_right) (D__law_are_others_right : Df P w K mg base 9 "_law_are_others_right" ["pot"] sp__law_are_others_right) : Df P w K mg base 10 "_law_right" ["pot"] sp__law_right :=
  df_mk (t := t__law_right K) hd hm sc__law_right (fun _ _ _ _ _ _ us hl => match us, hl with | [_], _ => rfl) len__law_right (fun cdv A outer s H E hr => by
    exact (pss_one (ps_ret (pe_and (pe_callF D__law_are_rings_right hr (by decide) (pa_cons (pv 0) pa_nil)) (pe_and (pe_callF D__law_are_rows_right hr (by decide) (pa_cons (pv 0) pa_nil)) (pe_one (pe_callF D__law_are_others_right hr (by decide) (pa_cons (pv 0) pa_nil)))))))) rd__law_right
abbrev s_law : Stmt := top 72
theorem sc_law : FnScope N_law ["script"] (defScope s_law) := ⟨rfl, rfl, rfl, by decide +kernel, rfl, by decide +kernel, by decide +kernel⟩
theorem ok_law {P : Program} {w : World} {K : PySem.W.Frag} {mg : Str → Option Value} {base : Heap} {fd : FuncData} (F : FunD K "law" "law" (defArgs s_law) (defBody s_law) (defScope s_law) [] [] (He.fAd K ("law", none)) fd) (m_all : mg "all" = none) (D__law_cells : Df P w K mg base 1 "_law_cells" ["script", "most"] (sp__law_cells K)) (D__law_pot : Df P w K mg base 1 "_law_pot" ["script", "place"] (sp__law_pot K)) (D__law_right : Df P w K mg base 10 "_law_right" ["pot"] sp__law_right) : FnOk P w K mg base CX0 11 (He.ga K "law") fd ["script"] (sp_law K) :=
  F.ok sc_law len_law fun cdv A outer s H vs Q E hr h => ⟨t_law K, PSs.nox ((pss_one (ps_ret (pe_callB (cr_all rfl) (by rfl) m_all (by decide +kernel) (pa_cons (pe_lc (own := [("place", 1)]) (g := (gName 1)) (tt := tYes) rfl sc_law.nd (pi_list (pe_callF D__law_cells hr (by decide) (pa_cons (pv 0) (pa_cons pe_int pa_nil)))) (blkOk_by (own := [("place", 1)]) (N := N_law) (sc := defScope s_law) (by decide +kernel)) (fun _ _ _ _ _ => (pg_name (i := 1) sc_law.nd rfl (Or.inl rfl))) (fun _ _ _ _ _ => pts_nil) (fun _ _ _ _ _ => (pe_callF D__law_right hr (by decide) (pa_cons (pe_callF D__law_pot hr (by decide) (pa_cons (pv 0) (pa_cons (pv 1) pa_nil))) pa_nil)))) pa_nil))))), rd_law vs H Q E h⟩
theorem law_end {K : PySem.W.Frag} {H : Hp} {a : Addr} {ns : List Int} (hS : SqL K H a (ns.map V.int)) : sp_law K [.ref a] H (fun v _ => v = .bl true) (fun _ _ _ => False) := ⟨H, a, ns, [], [], fun d => d = .bool true, rfl, Same.refl _, hS, .nil, ⟨rfl, rfl⟩, fun d hd v F1 H1 w r => by subst hd; cases r; rfl⟩
end Lp
namespace Hd
open PySem PySem.Spec PyProof.Rows L2
open Lp (top)
def d_is_whole_number : He.DefD := ⟨("is_whole_number", none), "is_whole_number", "is_whole_number", defArgs (top 10), defBody (top 10), defScope (top 10), [], []⟩
def d_is_int : He.DefD := ⟨("is_int", none), "is_int", "is_int", defArgs (top 11), defBody (top 11), defScope (top 11), [], []⟩
def d_look_at_int : He.DefD := ⟨("look_at_int", none), "look_at_int", "look_at_int", defArgs (top 12), defBody (top 12), defScope (top 12), [], []⟩
def d_is_ascending : He.DefD := ⟨("is_ascending", none), "is_ascending", "is_ascending", defArgs (top 13), defBody (top 13), defScope (top 13), [], []⟩
def d_is_tie : He.DefD := ⟨("is_tie", none), "is_tie", "is_tie", defArgs (top 14), defBody (top 14), defScope (top 14), [], []⟩
def d_is_told_web : He.DefD := ⟨("is_told_web", none), "is_told_web", "is_told_web", defArgs (top 15), defBody (top 15), defScope (top 15), [], []⟩
def d_look_at_web : He.DefD := ⟨("look_at_web", none), "look_at_web", "look_at_web", defArgs (top 16), defBody (top 16), defScope (top 16), [], []⟩
def d_look_at_place : He.DefD := ⟨("look_at_place", none), "look_at_place", "look_at_place", defArgs (top 17), defBody (top 17), defScope (top 17), [], []⟩
def d_look_at_two : He.DefD := ⟨("look_at_two", none), "look_at_two", "look_at_two", defArgs (top 18), defBody (top 18), defScope (top 18), [], []⟩
def d_near_of : He.DefD := ⟨("near_of", none), "near_of", "near_of", defArgs (top 19), defBody (top 19), defScope (top 19), [], []⟩
def d_reached : He.DefD := ⟨("reached", none), "reached", "reached", defArgs (top 20), defBody (top 20), defScope (top 20), [], []⟩
def d_is_joined : He.DefD := ⟨("is_joined", none), "is_joined", "is_joined", defArgs (top 21), defBody (top 21), defScope (top 21), [], []⟩
def d_look_at_joined : He.DefD := ⟨("look_at_joined", none), "look_at_joined", "look_at_joined", defArgs (top 22), defBody (top 22), defScope (top 22), [], []⟩
def d_ways_from : He.DefD := ⟨("ways_from", none), "ways_from", "ways_from", defArgs (top 24), defBody (top 24), defScope (top 24), [], []⟩
def d_told_power : He.DefD := ⟨("told_power", none), "told_power", "told_power", defArgs (top 26), defBody (top 26), defScope (top 26), [], []⟩
def d_look_at_far : He.DefD := ⟨("look_at_far", none), "look_at_far", "look_at_far", defArgs (top 27), defBody (top 27), defScope (top 27), [], []⟩
def d_power : He.DefD := ⟨("power", none), "power", "power", defArgs (top 28), defBody (top 28), defScope (top 28), [], []⟩
def d_longest_way : He.DefD := ⟨("longest_way", none), "longest_way", "longest_way", defArgs (top 29), defBody (top 29), defScope (top 29), [], []⟩
def d_is_power_of : He.DefD := ⟨("is_power_of", none), "is_power_of", "is_power_of", defArgs (top 30), defBody (top 30), defScope (top 30), [], []⟩
def d_way : He.DefD := ⟨("way", none), "way", "way", defArgs (top 32), defBody (top 32), defScope (top 32), [], []⟩
def d_within : He.DefD := ⟨("within", none), "within", "within", defArgs (top 33), defBody (top 33), defScope (top 33), [], []⟩
def d_hangs_together : He.DefD := ⟨("hangs_together", none), "hangs_together", "hangs_together", defArgs (top 34), defBody (top 34), defScope (top 34), [], []⟩
def d_tie_of : He.DefD := ⟨("tie_of", none), "tie_of", "tie_of", defArgs (top 35), defBody (top 35), defScope (top 35), [], []⟩
def d_told_renamed : He.DefD := ⟨("told_renamed", none), "told_renamed", "told_renamed", defArgs (top 36), defBody (top 36), defScope (top 36), [], []⟩
def d_are_names : He.DefD := ⟨("are_names", none), "are_names", "are_names", defArgs (top 37), defBody (top 37), defScope (top 37), [], []⟩
def d_renamed : He.DefD := ⟨("renamed", none), "renamed", "renamed", defArgs (top 38), defBody (top 38), defScope (top 38), [], []⟩
def d_is_told_tree : He.DefD := ⟨("is_told_tree", none), "is_told_tree", "is_told_tree", defArgs (top 41), defBody (top 41), defScope (top 41), [], []⟩
def d_is_tree : He.DefD := ⟨("is_tree", none), "is_tree", "is_tree", defArgs (top 42), defBody (top 42), defScope (top 42), [], []⟩
def d_look_at_tree : He.DefD := ⟨("look_at_tree", none), "look_at_tree", "look_at_tree", defArgs (top 43), defBody (top 43), defScope (top 43), [], []⟩
def d_arms_at : He.DefD := ⟨("arms_at", none), "arms_at", "arms_at", defArgs (top 44), defBody (top 44), defScope (top 44), [], []⟩
def d_told_arms : He.DefD := ⟨("told_arms", none), "told_arms", "told_arms", defArgs (top 45), defBody (top 45), defScope (top 45), [], []⟩
def d_is_hairy_row : He.DefD := ⟨("is_hairy_row", none), "is_hairy_row", "is_hairy_row", defArgs (top 46), defBody (top 46), defScope (top 46), [], []⟩
def d_long_arms : He.DefD := ⟨("long_arms", none), "long_arms", "long_arms", defArgs (top 47), defBody (top 47), defScope (top 47), [], []⟩
def d_middle : He.DefD := ⟨("middle", none), "middle", "middle", defArgs (top 48), defBody (top 48), defScope (top 48), [], []⟩
def d_ring_web : He.DefD := ⟨("ring_web", none), "ring_web", "ring_web", defArgs (top 55), defBody (top 55), defScope (top 55), [], []⟩
def d_row_web : He.DefD := ⟨("row_web", none), "row_web", "row_web", defArgs (top 56), defBody (top 56), defScope (top 56), [], []⟩
def d_full_web : He.DefD := ⟨("full_web", none), "full_web", "full_web", defArgs (top 57), defBody (top 57), defScope (top 57), [], []⟩
def d_two_sided : He.DefD := ⟨("two_sided", none), "two_sided", "two_sided", defArgs (top 58), defBody (top 58), defScope (top 58), [], []⟩
def d_wheel : He.DefD := ⟨("wheel", none), "wheel", "wheel", defArgs (top 59), defBody (top 59), defScope (top 59), [], []⟩
def d_armed : He.DefD := ⟨("armed", none), "armed", "armed", defArgs (top 60), defBody (top 60), defScope (top 60), [], []⟩
def d__law_take : He.DefD := ⟨("_law_take", none), "_law_take", "_law_take", defArgs (top 62), defBody (top 62), defScope (top 62), [], []⟩
def d__law_some : He.DefD := ⟨("_law_some", none), "_law_some", "_law_some", defArgs (top 63), defBody (top 63), defScope (top 63), [], []⟩
def d__law_cells : He.DefD := ⟨("_law_cells", none), "_law_cells", "_law_cells", defArgs (top 64), defBody (top 64), defScope (top 64), [], []⟩
def d__law_pot : He.DefD := ⟨("_law_pot", none), "_law_pot", "_law_pot", defArgs (top 65), defBody (top 65), defScope (top 65), [], []⟩
def d__law_names : He.DefD := ⟨("_law_names", none), "_law_names", "_law_names", defArgs (top 66), defBody (top 66), defScope (top 66), [], []⟩
def d__law_are_rings_right : He.DefD := ⟨("_law_are_rings_right", none), "_law_are_rings_right", "_law_are_rings_right", defArgs (top 67), defBody (top 67), defScope (top 67), [], []⟩
def d__law_are_rows_right : He.DefD := ⟨("_law_are_rows_right", none), "_law_are_rows_right", "_law_are_rows_right", defArgs (top 68), defBody (top 68), defScope (top 68), [], []⟩
def d__law_are_others_right : He.DefD := ⟨("_law_are_others_right", none), "_law_are_others_right", "_law_are_others_right", defArgs (top 69), defBody (top 69), defScope (top 69), [], []⟩
def d__law_all_pairs : He.DefD := ⟨("_law_all_pairs", none), "_law_all_pairs", "_law_all_pairs", defArgs (top 70), defBody (top 70), defScope (top 70), [], []⟩
def d__law_right : He.DefD := ⟨("_law_right", none), "_law_right", "_law_right", defArgs (top 71), defBody (top 71), defScope (top 71), [], []⟩
def d_law : He.DefD := ⟨("law", none), "law", "law", defArgs (top 72), defBody (top 72), defScope (top 72), [], []⟩
def fn : List He.DefD := [d_is_whole_number, d_is_int, d_look_at_int, d_is_ascending, d_is_tie, d_is_told_web, d_look_at_web, d_look_at_place, d_look_at_two, d_near_of, d_reached, d_is_joined, d_look_at_joined, d_ways_from, d_told_power, d_look_at_far, d_power, d_longest_way, d_is_power_of, d_way, d_within, d_hangs_together, d_tie_of, d_told_renamed, d_are_names, d_renamed, d_is_told_tree, d_is_tree, d_look_at_tree, d_arms_at, d_told_arms, d_is_hairy_row, d_long_arms, d_middle, d_ring_web, d_row_web, d_full_web, d_two_sided, d_wheel, d_armed, d__law_take, d__law_some, d__law_cells, d__law_pot, d__law_names, d__law_are_rings_right, d__law_are_rows_right, d__law_are_others_right, d__law_all_pairs, d__law_right, d_law]
def fa : List He.Fa := [.glo "is_whole_number", .glo "is_int", .glo "look_at_int", .glo "is_ascending", .glo "is_tie", .glo "is_told_web", .glo "look_at_web", .glo "look_at_place", .glo "look_at_two", .glo "near_of", .glo "reached", .glo "is_joined", .glo "look_at_joined", .glo "ways_from", .glo "told_power", .glo "look_at_far", .glo "power", .glo "longest_way", .glo "is_power_of", .glo "way", .glo "within", .glo "hangs_together", .glo "tie_of", .glo "told_renamed", .glo "are_names", .glo "renamed", .glo "is_told_tree", .glo "is_tree", .glo "look_at_tree", .glo "arms_at", .glo "told_arms", .glo "is_hairy_row", .glo "long_arms", .glo "middle", .glo "ring_web", .glo "row_web", .glo "full_web", .glo "two_sided", .glo "wheel", .glo "armed", .glo "_law_take", .glo "_law_some", .glo "_law_cells", .glo "_law_pot", .glo "_law_names", .glo "_law_are_rings_right", .glo "_law_are_rows_right", .glo "_law_are_others_right", .glo "_law_all_pairs", .glo "_law_right", .glo "law", .free "isinstance", .free "int", .free "bool", .free "tuple", .free "list", .free "set", .free "len", .free "all", .free "zip", .free "range", .free "sorted", .free "sum", .free "max", .free "min", .free "abs", .int "MOST_PLACES" 40, .int "ARMS_MANY" 3, .int "MOST_WEB" 40, .int "MOST_SIDE" 20, .int "MOST_ARM" 13, .int "THREE" 3, .int "FOUR" 4]
abbrev R : PySem.W.OpenRow := PySem.W.OpenLaw.row PySem.Challenge.rw_leapsofone_k56_whole_ways_and_powers_by
abbrev hk : PySem.W.Hook := He.hookD 4 fa fn
def ob (s : PySem.W.SharedT) : He.AlD := He.obsDG 4 fa fn (HandSHeadRun.getT s)
theorem ob_eq (s : PySem.W.SharedT) : ob s = hk.obs s.abs := He.obsDG_eq (HandSHeadRun.getT_eq s)
def loose : List PySem.Str := ([PySem.Str.ofString "LeapError", PySem.Str.ofString "BadInt", PySem.Str.ofString "BadWeb", PySem.Str.ofString "BadPlace", PySem.Str.ofString "BadNames", PySem.Str.ofString "NotJoined", PySem.Str.ofString "NotTree", PySem.Str.ofString "MOST_PLACES", PySem.Str.ofString "ARMS_MANY", PySem.Str.ofString "MOST_WEB", PySem.Str.ofString "MOST_SIDE", PySem.Str.ofString "MOST_ARM", PySem.Str.ofString "THREE", PySem.Str.ofString "FOUR", PySem.Str.ofString "is_whole_number", PySem.Str.ofString "is_int", PySem.Str.ofString "look_at_int", PySem.Str.ofString "is_ascending", PySem.Str.ofString "is_tie", PySem.Str.ofString "is_told_web", PySem.Str.ofString "look_at_web", PySem.Str.ofString "look_at_place", PySem.Str.ofString "look_at_two", PySem.Str.ofString "near_of", PySem.Str.ofString "reached", PySem.Str.ofString "is_joined", PySem.Str.ofString "look_at_joined", PySem.Str.ofString "ways_from", PySem.Str.ofString "told_power", PySem.Str.ofString "look_at_far", PySem.Str.ofString "power", PySem.Str.ofString "longest_way", PySem.Str.ofString "is_power_of", PySem.Str.ofString "way", PySem.Str.ofString "within"] : List PySem.Str) ++ ([PySem.Str.ofString "hangs_together", PySem.Str.ofString "tie_of", PySem.Str.ofString "told_renamed", PySem.Str.ofString "are_names", PySem.Str.ofString "renamed", PySem.Str.ofString "is_told_tree", PySem.Str.ofString "is_tree", PySem.Str.ofString "look_at_tree", PySem.Str.ofString "arms_at", PySem.Str.ofString "told_arms", PySem.Str.ofString "is_hairy_row", PySem.Str.ofString "long_arms", PySem.Str.ofString "middle", PySem.Str.ofString "ring_web", PySem.Str.ofString "row_web", PySem.Str.ofString "full_web", PySem.Str.ofString "two_sided", PySem.Str.ofString "wheel", PySem.Str.ofString "armed", PySem.Str.ofString "_law_take", PySem.Str.ofString "_law_some", PySem.Str.ofString "_law_cells", PySem.Str.ofString "_law_pot", PySem.Str.ofString "_law_names", PySem.Str.ofString "_law_are_rings_right", PySem.Str.ofString "_law_are_rows_right", PySem.Str.ofString "_law_are_others_right", PySem.Str.ofString "_law_all_pairs", PySem.Str.ofString "_law_right"] : List PySem.Str)
theorem run (w : World) : HandSHeadRun.RunEq R (PySem.W.view R.prog [72]) hk ob 30000 loose w := by
  intro os
  kernel_rfl
theorem facts {P : Program} {w : World} {K : PySem.W.Frag} {h : Heap} {mg : Str → Option Value} {f : Addr} (X : K.In h) (G : h.Ns mainGlobals mg) (hfa : mg ("law" : Str) = some (.ref f)) (c : He.SaysD fa fn K) :
    ∃ fd : FuncData, (∀ (s : Shared) (v : Value), BindsTo s fd ⟨[v], []⟩ [("script", v)]) ∧ ∀ base : Heap, K.In base → base.Ns mainGlobals mg → FnOk P w K mg base CX0 11 f fd ["script"] (Lp.sp_law K) := by
  obtain ⟨fd, F⟩ := c.def_ 50 (d := d_law) rfl
  have e := hfa.symm.trans (He.glo_ok X G (c.fact 50 (f := .glo "law") rfl))
  cases e
  have b := FunD.bindsA (ps := ["script"]) F fun _ _ _ _ _ _ us hl => match us, hl with | [_], _ => rfl
  refine ⟨fd, fun s v => b s [v] rfl, fun base _ _ => ?_⟩
  have m_abs := He.free_ok X G (c.fact 65 (f := .free "abs") rfl)
  have m_all := He.free_ok X G (c.fact 58 (f := .free "all") rfl)
  have m_bool := He.free_ok X G (c.fact 53 (f := .free "bool") rfl)
  have m_int := He.free_ok X G (c.fact 52 (f := .free "int") rfl)
  have m_isinstance := He.free_ok X G (c.fact 51 (f := .free "isinstance") rfl)
  have m_len := He.free_ok X G (c.fact 57 (f := .free "len") rfl)
  have m_list := He.free_ok X G (c.fact 55 (f := .free "list") rfl)
  have m_max := He.free_ok X G (c.fact 63 (f := .free "max") rfl)
  have m_min := He.free_ok X G (c.fact 64 (f := .free "min") rfl)
  have m_range := He.free_ok X G (c.fact 60 (f := .free "range") rfl)
  have m_set := He.free_ok X G (c.fact 56 (f := .free "set") rfl)
  have m_sorted := He.free_ok X G (c.fact 61 (f := .free "sorted") rfl)
  have m_sum := He.free_ok X G (c.fact 62 (f := .free "sum") rfl)
  have m_tuple := He.free_ok X G (c.fact 54 (f := .free "tuple") rfl)
  have m_zip := He.free_ok X G (c.fact 59 (f := .free "zip") rfl)
  have c_ARMS_MANY := He.int_ok X G (c.fact 67 (f := .int "ARMS_MANY" 3) rfl)
  have c_FOUR := He.int_ok X G (c.fact 72 (f := .int "FOUR" 4) rfl)
  have c_MOST_ARM := He.int_ok X G (c.fact 70 (f := .int "MOST_ARM" 13) rfl)
  have c_MOST_PLACES := He.int_ok X G (c.fact 66 (f := .int "MOST_PLACES" 40) rfl)
  have c_MOST_SIDE := He.int_ok X G (c.fact 69 (f := .int "MOST_SIDE" 20) rfl)
  have c_MOST_WEB := He.int_ok X G (c.fact 68 (f := .int "MOST_WEB" 40) rfl)
  have c_THREE := He.int_ok X G (c.fact 71 (f := .int "THREE" 3) rfl)
  have D_is_whole_number := Lp.df_is_whole_number (P := P) (w := w) (base := base) (c.def_ 0 (d := d_is_whole_number) rfl) (He.glo_ok X G (c.fact 0 (f := .glo "is_whole_number") rfl)) m_isinstance m_int m_bool
  have D_is_int := Lp.df_is_int (P := P) (w := w) (base := base) (c.def_ 1 (d := d_is_int) rfl) (He.glo_ok X G (c.fact 1 (f := .glo "is_int") rfl)) D_is_whole_number
  have D_look_at_int := Lp.df_look_at_int (P := P) (w := w) (base := base) (c.def_ 2 (d := d_look_at_int) rfl) (He.glo_ok X G (c.fact 2 (f := .glo "look_at_int") rfl)) D_is_int
  have D_is_ascending := Lp.df_is_ascending (P := P) (w := w) (base := base) (c.def_ 3 (d := d_is_ascending) rfl) (He.glo_ok X G (c.fact 3 (f := .glo "is_ascending") rfl)) m_zip m_all
  have D_is_tie := Lp.df_is_tie (P := P) (w := w) (base := base) (c.def_ 4 (d := d_is_tie) rfl) (He.glo_ok X G (c.fact 4 (f := .glo "is_tie") rfl)) m_isinstance m_tuple m_len m_all D_is_int
  have D_is_told_web := Lp.df_is_told_web (P := P) (w := w) (base := base) (c.def_ 5 (d := d_is_told_web) rfl) (He.glo_ok X G (c.fact 5 (f := .glo "is_told_web") rfl)) m_isinstance m_tuple m_len m_all c_MOST_PLACES D_is_int D_is_tie D_is_ascending
  have D_look_at_web := Lp.df_look_at_web (P := P) (w := w) (base := base) (c.def_ 6 (d := d_look_at_web) rfl) (He.glo_ok X G (c.fact 6 (f := .glo "look_at_web") rfl)) D_is_told_web
  have D_look_at_place := Lp.df_look_at_place (P := P) (w := w) (base := base) (c.def_ 7 (d := d_look_at_place) rfl) (He.glo_ok X G (c.fact 7 (f := .glo "look_at_place") rfl)) D_look_at_web D_is_int
  have D_look_at_two := Lp.df_look_at_two (P := P) (w := w) (base := base) (c.def_ 8 (d := d_look_at_two) rfl) (He.glo_ok X G (c.fact 8 (f := .glo "look_at_two") rfl)) D_look_at_place
  have D_near_of := Lp.df_near_of (P := P) (w := w) (base := base) (c.def_ 9 (d := d_near_of) rfl) (He.glo_ok X G (c.fact 9 (f := .glo "near_of") rfl)) m_range m_sorted
  have D_reached := Lp.df_reached (P := P) (w := w) (base := base) (c.def_ 10 (d := d_reached) rfl) (He.glo_ok X G (c.fact 10 (f := .glo "reached") rfl)) m_sorted
  have D_is_joined := Lp.df_is_joined (P := P) (w := w) (base := base) (c.def_ 11 (d := d_is_joined) rfl) (He.glo_ok X G (c.fact 11 (f := .glo "is_joined") rfl)) m_len D_reached
  have D_look_at_joined := Lp.df_look_at_joined (P := P) (w := w) (base := base) (c.def_ 12 (d := d_look_at_joined) rfl) (He.glo_ok X G (c.fact 12 (f := .glo "look_at_joined") rfl)) D_look_at_web D_near_of D_is_joined
  have D_ways_from := Lp.df_ways_from (P := P) (w := w) (base := base) (c.def_ 13 (d := d_ways_from) rfl) (He.glo_ok X G (c.fact 13 (f := .glo "ways_from") rfl)) 
  have D_told_power := Lp.df_told_power (P := P) (w := w) (base := base) (c.def_ 14 (d := d_told_power) rfl) (He.glo_ok X G (c.fact 14 (f := .glo "told_power") rfl)) m_range m_sorted m_tuple D_near_of D_ways_from
  have D_look_at_far := Lp.df_look_at_far (P := P) (w := w) (base := base) (c.def_ 15 (d := d_look_at_far) rfl) (He.glo_ok X G (c.fact 15 (f := .glo "look_at_far") rfl)) c_MOST_PLACES D_look_at_web D_look_at_int
  have D_power := Lp.df_power (P := P) (w := w) (base := base) (c.def_ 16 (d := d_power) rfl) (He.glo_ok X G (c.fact 16 (f := .glo "power") rfl)) D_look_at_far D_told_power
  have D_longest_way := Lp.df_longest_way (P := P) (w := w) (base := base) (c.def_ 17 (d := d_longest_way) rfl) (He.glo_ok X G (c.fact 17 (f := .glo "longest_way") rfl)) m_range m_max D_look_at_joined D_ways_from
  have D_is_power_of := Lp.df_is_power_of (P := P) (w := w) (base := base) (c.def_ 18 (d := d_is_power_of) rfl) (He.glo_ok X G (c.fact 18 (f := .glo "is_power_of") rfl)) D_look_at_far D_is_told_web D_told_power
  have D_way := Lp.df_way (P := P) (w := w) (base := base) (c.def_ 19 (d := d_way) rfl) (He.glo_ok X G (c.fact 19 (f := .glo "way") rfl)) D_look_at_two D_near_of D_ways_from
  have D_within := Lp.df_within (P := P) (w := w) (base := base) (c.def_ 20 (d := d_within) rfl) (He.glo_ok X G (c.fact 20 (f := .glo "within") rfl)) m_sorted m_tuple c_MOST_PLACES D_look_at_place D_look_at_int D_near_of D_ways_from
  have D_hangs_together := Lp.df_hangs_together (P := P) (w := w) (base := base) (c.def_ 21 (d := d_hangs_together) rfl) (He.glo_ok X G (c.fact 21 (f := .glo "hangs_together") rfl)) D_look_at_web D_near_of D_is_joined
  have D_tie_of := Lp.df_tie_of (P := P) (w := w) (base := base) (c.def_ 22 (d := d_tie_of) rfl) (He.glo_ok X G (c.fact 22 (f := .glo "tie_of") rfl)) m_max m_min
  have D_told_renamed := Lp.df_told_renamed (P := P) (w := w) (base := base) (c.def_ 23 (d := d_told_renamed) rfl) (He.glo_ok X G (c.fact 23 (f := .glo "told_renamed") rfl)) m_sorted m_tuple D_tie_of
  have D_are_names := Lp.df_are_names (P := P) (w := w) (base := base) (c.def_ 24 (d := d_are_names) rfl) (He.glo_ok X G (c.fact 24 (f := .glo "are_names") rfl)) m_isinstance m_tuple m_len m_all m_set D_is_int
  have D_renamed := Lp.df_renamed (P := P) (w := w) (base := base) (c.def_ 25 (d := d_renamed) rfl) (He.glo_ok X G (c.fact 25 (f := .glo "renamed") rfl)) D_look_at_web D_are_names D_told_renamed
  have D_is_told_tree := Lp.df_is_told_tree (P := P) (w := w) (base := base) (c.def_ 26 (d := d_is_told_tree) rfl) (He.glo_ok X G (c.fact 26 (f := .glo "is_told_tree") rfl)) m_len D_near_of D_is_joined
  have D_is_tree := Lp.df_is_tree (P := P) (w := w) (base := base) (c.def_ 27 (d := d_is_tree) rfl) (He.glo_ok X G (c.fact 27 (f := .glo "is_tree") rfl)) D_is_told_web D_is_told_tree
  have D_look_at_tree := Lp.df_look_at_tree (P := P) (w := w) (base := base) (c.def_ 28 (d := d_look_at_tree) rfl) (He.glo_ok X G (c.fact 28 (f := .glo "look_at_tree") rfl)) D_look_at_web D_is_told_tree D_near_of
  have D_arms_at := Lp.df_arms_at (P := P) (w := w) (base := base) (c.def_ 29 (d := d_arms_at) rfl) (He.glo_ok X G (c.fact 29 (f := .glo "arms_at") rfl)) 
  have D_told_arms := Lp.df_told_arms (P := P) (w := w) (base := base) (c.def_ 30 (d := d_told_arms) rfl) (He.glo_ok X G (c.fact 30 (f := .glo "told_arms") rfl)) m_len m_range m_tuple c_ARMS_MANY D_arms_at
  have D_is_hairy_row := Lp.df_is_hairy_row (P := P) (w := w) (base := base) (c.def_ 31 (d := d_is_hairy_row) rfl) (He.glo_ok X G (c.fact 31 (f := .glo "is_hairy_row") rfl)) D_look_at_tree D_told_arms
  have D_long_arms := Lp.df_long_arms (P := P) (w := w) (base := base) (c.def_ 32 (d := d_long_arms) rfl) (He.glo_ok X G (c.fact 32 (f := .glo "long_arms") rfl)) D_look_at_tree D_told_arms
  have D_middle := Lp.df_middle (P := P) (w := w) (base := base) (c.def_ 33 (d := d_middle) rfl) (He.glo_ok X G (c.fact 33 (f := .glo "middle") rfl)) m_range m_max m_min m_tuple D_look_at_tree D_ways_from
  have D_ring_web := Lp.df_ring_web (P := P) (w := w) (base := base) (c.def_ 34 (d := d_ring_web) rfl) (He.glo_ok X G (c.fact 34 (f := .glo "ring_web") rfl)) m_range m_sorted m_tuple c_MOST_WEB c_THREE D_look_at_int
  have D_row_web := Lp.df_row_web (P := P) (w := w) (base := base) (c.def_ 35 (d := d_row_web) rfl) (He.glo_ok X G (c.fact 35 (f := .glo "row_web") rfl)) m_range m_tuple c_MOST_WEB D_look_at_int
  have D_full_web := Lp.df_full_web (P := P) (w := w) (base := base) (c.def_ 36 (d := d_full_web) rfl) (He.glo_ok X G (c.fact 36 (f := .glo "full_web") rfl)) m_range m_tuple c_MOST_WEB D_look_at_int
  have D_two_sided := Lp.df_two_sided (P := P) (w := w) (base := base) (c.def_ 37 (d := d_two_sided) rfl) (He.glo_ok X G (c.fact 37 (f := .glo "two_sided") rfl)) m_range m_tuple c_MOST_SIDE D_look_at_int
  have D_wheel := Lp.df_wheel (P := P) (w := w) (base := base) (c.def_ 38 (d := d_wheel) rfl) (He.glo_ok X G (c.fact 38 (f := .glo "wheel") rfl)) m_range m_sorted m_tuple c_MOST_WEB c_FOUR D_look_at_int D_ring_web
  have D_armed := Lp.df_armed (P := P) (w := w) (base := base) (c.def_ 39 (d := d_armed) rfl) (He.glo_ok X G (c.fact 39 (f := .glo "armed") rfl)) m_range m_sorted m_tuple c_MOST_ARM c_THREE D_look_at_int
  have D__law_take := Lp.df__law_take (P := P) (w := w) (base := base) (c.def_ 40 (d := d__law_take) rfl) (He.glo_ok X G (c.fact 40 (f := .glo "_law_take") rfl)) m_int
  have D__law_some := Lp.df__law_some (P := P) (w := w) (base := base) (c.def_ 41 (d := d__law_some) rfl) (He.glo_ok X G (c.fact 41 (f := .glo "_law_some") rfl)) m_list m_range m_len D__law_take
  have D__law_cells := Lp.df__law_cells (P := P) (w := w) (base := base) (c.def_ 42 (d := d__law_cells) rfl) (He.glo_ok X G (c.fact 42 (f := .glo "_law_cells") rfl)) m_len m_min m_max m_range m_list
  have D__law_pot := Lp.df__law_pot (P := P) (w := w) (base := base) (c.def_ 43 (d := d__law_pot) rfl) (He.glo_ok X G (c.fact 43 (f := .glo "_law_pot") rfl)) m_len m_sum m_int m_abs
  have D__law_names := Lp.df__law_names (P := P) (w := w) (base := base) (c.def_ 44 (d := d__law_names) rfl) (He.glo_ok X G (c.fact 44 (f := .glo "_law_names") rfl)) m_range m_list m_int m_tuple D__law_some
  have D__law_are_rings_right := Lp.df__law_are_rings_right (P := P) (w := w) (base := base) (c.def_ 45 (d := d__law_are_rings_right) rfl) (He.glo_ok X G (c.fact 45 (f := .glo "_law_are_rings_right") rfl)) m_int m_min m_len D__law_take D__law_names D_ring_web D_renamed D_way D_longest_way D_within D_power
  have D__law_are_rows_right := Lp.df__law_are_rows_right (P := P) (w := w) (base := base) (c.def_ 46 (d := d__law_are_rows_right) rfl) (He.glo_ok X G (c.fact 46 (f := .glo "_law_are_rows_right") rfl)) m_int m_set m_sorted m_tuple m_range m_max m_sum m_len m_min D__law_take D__law_names D_row_web D_renamed D_longest_way D_middle D_power D_is_power_of D_hangs_together D_full_web
  have D__law_all_pairs := Lp.df__law_all_pairs (P := P) (w := w) (base := base) (c.def_ 48 (d := d__law_all_pairs) rfl) (He.glo_ok X G (c.fact 48 (f := .glo "_law_all_pairs") rfl)) m_range
  have D__law_are_others_right := Lp.df__law_are_others_right (P := P) (w := w) (base := base) (c.def_ 47 (d := d__law_are_others_right) rfl) (He.glo_ok X G (c.fact 47 (f := .glo "_law_are_others_right") rfl)) m_int m_len m_range m_max m_sum D__law_take D_wheel D_longest_way D_within D_power D_full_web D_two_sided D_way D_armed D_is_tree D_middle D_is_hairy_row D_long_arms D__law_all_pairs
  have D__law_right := Lp.df__law_right (P := P) (w := w) (base := base) (c.def_ 49 (d := d__law_right) rfl) (He.glo_ok X G (c.fact 49 (f := .glo "_law_right") rfl)) D__law_are_rings_right D__law_are_rows_right D__law_are_others_right
  exact Lp.ok_law F m_all D__law_cells D__law_pot D__law_right
end Hd
open PySem PySem.W PySem.Calls PyProof.Rows
theorem PySem.Challenge.cw_leapsofone_k56_whole_ways_and_powers_by_holds : PySem.Challenge.rw_leapsofone_k56_whole_ways_and_powers_by.Holds := by
  w_on; o_law
  refine HandSHeadRun.head_any (r := OpenLaw.row PySem.Challenge.rw_leapsofone_k56_whole_ways_and_powers_by) (q := view (OpenLaw.row PySem.Challenge.rw_leapsofone_k56_whole_ways_and_powers_by).prog [72]) (H := Hd.hk) (ob := Hd.ob) (M := 30000) (loose := Hd.loose) (d := HandSHeadRun.topDef (OpenLaw.row PySem.Challenge.rw_leapsofone_k56_whole_ways_and_powers_by).prog 72) (kwd := []) Hd.ob_eq
    (by kernel_rfl) (fun s => by kernel_rfl) Hd.run (by kernel_rfl) (by kernel_rfl) (by kernel_rfl) (by rfl) (by first | assumption | decide +kernel) (by decide +kernel) ⟨rfl, rfl, rfl, rfl, rfl, by decide +kernel⟩ ?hw ?hc
  case hw => w_witness2
  case hc =>
    refine L2.walk_ofE (l := PySem.Challenge.rw_leapsofone_k56_whole_ways_and_powers_by) (n := 63) (k := 11) (x := "script") (CX := L2.CX0) rfl (by decide) (by kernel_rfl) ⟨rfl, by decide, by decide⟩ ?F (fun _ _ _ _ z => z)
    intro w mg fa h Y G hmg0
    obtain ⟨K, KX, c⟩ := Y
    have hmg : mg ("law" : PySem.Str) = some (.ref fa) := by
      have e : (HandSHeadRun.topDef (OpenLaw.row PySem.Challenge.rw_leapsofone_k56_whole_ways_and_powers_by).prog 72).name = ("law" : PySem.Str) := by kernel_rfl
      rw [← e]
      exact hmg0
    obtain ⟨fd, hb, hF⟩ := Hd.facts (P := (PySem.Challenge.rw_leapsofone_k56_whole_ways_and_powers_by).prog) (w := w) KX G hmg c
    exact ⟨K, fd, Lp.sp_law K, KX, hb, fun H a ns hl _ hS => Lp.law_end hS, hF⟩
