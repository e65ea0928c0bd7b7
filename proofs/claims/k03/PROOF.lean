import PyProof.Rows.All
import HandS.ForMost
import HandS.Style
import HandS.TupAny
import HandS.Evl
import HandS.WordsExc
import HandS.ExcCtx
import HandS.HotCalls
import HandS.ExcIs
import HandS.ExcField
import HandS.ExcInitHot
import HandS.Rev
import HandS.RevTup
import HandS.Conv
import HandS.IsInst
import PyProof.StrOps2
import KE.DataMinMax
import HandS.ExcInit
import PyProof.Rows.RegReprOcc
import HandS.Lambda
import HandS.EndTab
import KE.KDflt
import HandS.Nested
import KE.KIntText
import HandS.Sort
import HandS.Dict
import HandS.More
import HandS.Small
import HandS.ListItems
import KE.KDictList
import KE.SortData
import PySem.Challenge.RW_endshare_k03_whole_the_fewest_free
set_option Elab.async false
set_option linter.all false
set_option maxRecDepth 100000
set_option maxHeartbeats 4000000
/-! The data layer: values read as data (PyData); a frame of slots, owned objects, the rest shared and never changed. -/
namespace L2
namespace DL
open PySem PySem.Spec PyProof.Rows
/-! ### heaps with parts hidden -/
def hid (S : List Addr) (H : Hp) : Hp := fun a => if a ∈ S then none else H a
theorem hid_in {S : List Addr} {H : Hp} {a : Addr} (h : a ∈ S) : hid S H a = none := by unfold hid; rw [if_pos h]
theorem hid_out {S : List Addr} {H : Hp} {a : Addr} (h : a ∉ S) : hid S H a = H a := by unfold hid; rw [if_neg h]
theorem hid_some {S : List Addr} {H : Hp} {a : Addr} {o : HO} (h : hid S H a = some o) : a ∉ S ∧ H a = some o := by
  by_cases m : a ∈ S
  · rw [hid_in m] at h; cases h
  · rw [hid_out m] at h; exact ⟨m, h⟩
theorem hid_of {S : List Addr} {H : Hp} {a : Addr} {o : HO} (m : a ∉ S) (h : H a = some o) : hid S H a = some o := by rw [hid_out m]; exact h
theorem hid_mono {S S' : List Addr} {H H' : Hp} (e : Same H H') (s : ∀ a, a ∈ S' → a ∈ S ∨ H a = none) : Same (hid S H) (hid S' H') := fun b o q => by
  obtain ⟨m, q⟩ := hid_some q
  refine hid_of (fun z => ?_) (e b o q)
  rcases s b z with z | z
  · exact m z
  · rw [z] at q; cases q
theorem hid_same {S : List Addr} {H H' : Hp} (e : Same H H') : Same (hid S H) (hid S H') := hid_mono e fun _ z => .inl z
theorem hid_less {S S' : List Addr} {H : Hp} (s : ∀ a, a ∈ S' → a ∈ S) : Same (hid S H) (hid S' H) := hid_mono (Same.refl H) fun a z => .inl (s a z)
theorem hid_nil {H : Hp} : hid [] H = H := by funext a; unfold hid; rw [if_neg (by simp)]
/-- a change at a hidden place is not seen -/
theorem hid_upd_in {S : List Addr} {H : Hp} {a : Addr} {o : HO} (h : a ∈ S) : hid S (upd H a o) = hid S H := by
  funext b
  unfold hid
  by_cases m : b ∈ S
  · rw [if_pos m, if_pos m]
  · rw [if_neg m, if_neg m, upd_ne (fun e => m (by rw [e]; exact h))]
theorem same_new {H : Hp} {p : Addr} {o : HO} (h : H p = none) : Same H (upd H p o) := fun b u e => by
  rw [upd_ne (ne_of_none e h)]
  exact e
theorem same_rd {H H' : Hp} {a : Addr} {u : HO} (e : Same H H') (h : Rd H a u) : Rd H' a u := by
  rcases h with h | ⟨o, h⟩
  · exact Or.inl (e a _ h)
  · exact Or.inr ⟨o, e a _ h⟩
theorem same_l {K : PySem.W.Frag} {H H' : Hp} {a : Addr} {xs : List V} (e : Same H H') (h : SqL K H a xs) : SqL K H' a xs := by
  rcases h with h | h
  · exact Or.inl (same_rd e h)
  · exact Or.inr h
theorem same_t {K : PySem.W.Frag} {H H' : Hp} {a : Addr} {xs : List V} (e : Same H H') (h : SqT K H a xs) : SqT K H' a xs := by
  rcases h with h | h
  · exact Or.inl (same_rd e h)
  · exact Or.inr h
/-! ### data in a heap -/
mutual
/-- v reads as d; lists are tracked ones -/
inductive Dt (K : PySem.W.Frag) (H : Hp) : V → PyData → Prop
  | non : Dt K H .non .none
  | bl (b : Bool) : Dt K H (.bl b) (.bool b)
  | int (i : Int) : Dt K H (.int i) (.int i)
  | str (x : Str) : Dt K H (.str x) (.str x)
  | lst {a : Addr} {xs : List V} {ds : List PyData} : H a = some (.lst xs) → DtAll K H xs ds → Dt K H (.ref a) (.list ds)
  | tup {a : Addr} {xs : List V} {ds : List PyData} : SqT K H a xs → DtAll K H xs ds → Dt K H (.ref a) (.tuple ds)
inductive DtAll (K : PySem.W.Frag) (H : Hp) : List V → List PyData → Prop
  | nil : DtAll K H [] []
  | cons {v : V} {vs : List V} {d : PyData} {ds : List PyData} : Dt K H v d → DtAll K H vs ds → DtAll K H (v :: vs) (d :: ds)
end
mutual
theorem dt_dp {K : PySem.W.Frag} {H : Hp} : ∀ {v : V} {d : PyData}, Dt K H v d → Dp K H v d
  | _, _, .non => .non
  | _, _, .bl b => .bl b
  | _, _, .int i => .int i
  | _, _, .str x => .str x
  | _, _, .lst h r => .lst (SqL.of h) (dt_dpAll r)
  | _, _, .tup h r => .tup h (dt_dpAll r)
theorem dt_dpAll {K : PySem.W.Frag} {H : Hp} : ∀ {vs : List V} {ds : List PyData}, DtAll K H vs ds → DpAll K H vs ds
  | _, _, .nil => .nil
  | _, _, .cons h r => .cons (dt_dp h) (dt_dpAll r)
end
mutual
theorem dp_mono {K : PySem.W.Frag} {H H' : Hp} (e : Same H H') : ∀ {v : V} {d : PyData}, Dt K H v d → Dt K H' v d
  | _, _, .non => .non
  | _, _, .bl b => .bl b
  | _, _, .int i => .int i
  | _, _, .str x => .str x
  | _, _, .lst h r => .lst (e _ _ h) (dpAll_mono e r)
  | _, _, .tup h r => .tup (same_t e h) (dpAll_mono e r)
theorem dpAll_mono {K : PySem.W.Frag} {H H' : Hp} (e : Same H H') : ∀ {vs : List V} {ds : List PyData}, DtAll K H vs ds → DtAll K H' vs ds
  | _, _, .nil => .nil
  | _, _, .cons h r => .cons (dp_mono e h) (dpAll_mono e r)
end
theorem dpAll_length {K : PySem.W.Frag} {H : Hp} : ∀ {vs : List V} {ds : List PyData}, DtAll K H vs ds → vs.length = ds.length
  | _, _, .nil => rfl
  | _, _, .cons _ r => by rw [List.length_cons, List.length_cons, dpAll_length r]
theorem dpAll_get {K : PySem.W.Frag} {H : Hp} : ∀ {vs : List V} {ds : List PyData} {i : Nat} {d : PyData}, DtAll K H vs ds → ds[i]? = some d → ∃ v, vs[i]? = some v ∧ Dt K H v d
  | _, _, _, _, .nil, h => by simp at h
  | _, _, 0, _, .cons h r, e => by simp at e; subst e; exact ⟨_, rfl, h⟩
  | _, _, i + 1, _, .cons h r, e => by simpa using dpAll_get (i := i) r (by simpa using e)
theorem dpAll_getV {K : PySem.W.Frag} {H : Hp} : ∀ {vs : List V} {ds : List PyData} {i : Nat} {v : V}, DtAll K H vs ds → vs[i]? = some v → ∃ d, ds[i]? = some d ∧ Dt K H v d
  | _, _, _, _, .nil, h => by simp at h
  | _, _, 0, _, .cons h r, e => by simp at e; subst e; exact ⟨_, rfl, h⟩
  | _, _, i + 1, _, .cons h r, e => by simpa using dpAll_getV (i := i) r (by simpa using e)
theorem dpAll_append {K : PySem.W.Frag} {H : Hp} : ∀ {vs ws : List V} {ds es : List PyData}, DtAll K H vs ds → DtAll K H ws es → DtAll K H (vs ++ ws) (ds ++ es)
  | _, _, _, _, .nil, s => s
  | _, _, _, _, .cons h r, s => .cons h (dpAll_append r s)
theorem dpAll_take {K : PySem.W.Frag} {H : Hp} : ∀ {vs : List V} {ds : List PyData} (n : Nat), DtAll K H vs ds → DtAll K H (vs.take n) (ds.take n)
  | _, _, 0, _ => .nil
  | _, _, _ + 1, .nil => .nil
  | _, _, n + 1, .cons h r => .cons h (dpAll_take n r)
theorem dpAll_drop {K : PySem.W.Frag} {H : Hp} : ∀ {vs : List V} {ds : List PyData} (n : Nat), DtAll K H vs ds → DtAll K H (vs.drop n) (ds.drop n)
  | _, _, 0, r => r
  | _, _, _ + 1, .nil => .nil
  | _, _, n + 1, .cons _ r => dpAll_drop n r
theorem dpAll_reverse {K : PySem.W.Frag} {H : Hp} {vs : List V} {ds : List PyData} (h : DtAll K H vs ds) : DtAll K H vs.reverse ds.reverse := by
  induction vs generalizing ds with
  | nil => cases h; exact .nil
  | cons v vs ih => cases h with | cons h r => rw [List.reverse_cons, List.reverse_cons]; exact dpAll_append (ih r) (.cons h .nil)
theorem dpAll_set {K : PySem.W.Frag} {H : Hp} {v : V} {d : PyData} (h : Dt K H v d) : ∀ {vs : List V} {ds : List PyData} (i : Nat), DtAll K H vs ds → DtAll K H (vs.set i v) (ds.set i d)
  | _, _, _, .nil => .nil
  | _, _, 0, .cons _ r => .cons h r
  | _, _, i + 1, .cons q r => .cons q (dpAll_set h i r)
theorem dpAll_ints {K : PySem.W.Frag} {H : Hp} : ∀ {ns : List Int} {vs : List V}, DtAll K H vs (ns.map .int) → vs = ns.map V.int
  | [], _, h => by cases h; rfl
  | n :: ns, _, h => by
    cases h with | cons h r => cases h; rw [dpAll_ints r]; rfl
theorem dpAll_of_ints {K : PySem.W.Frag} {H : Hp} : ∀ ns : List Int, DtAll K H (ns.map V.int) (ns.map .int)
  | [] => .nil
  | n :: ns => .cons (.int n) (dpAll_of_ints ns)
/-- data that lie in no object -/
def flatD : PyData → Bool
  | .none | .bool _ | .int _ | .str _ => true
  | _ => false
theorem dp_flat {K : PySem.W.Frag} {H : Hp} (H' : Hp) {v : V} {d : PyData} (f : flatD d = true) (h : Dt K H v d) : Dt K H' v d := by
  cases h with
  | non => exact .non
  | bl b => exact .bl b
  | int i => exact .int i
  | str x => exact .str x
  | lst _ _ => cases f
  | tup _ _ => cases f
theorem dpAll_flat {K : PySem.W.Frag} {H : Hp} (H' : Hp) : ∀ {vs : List V} {ds : List PyData}, ds.all flatD = true → DtAll K H vs ds → DtAll K H' vs ds
  | _, _, _, .nil => .nil
  | _, _, f, .cons h r => by
    rw [List.all_cons, Bool.and_eq_true] at f
    exact .cons (dp_flat H' f.1 h) (dpAll_flat H' f.2 r)
/-! ### slots, owned objects, states -/
/-- what a slot (an item) is known to hold: data; a value; nothing -/
inductive Sl where
  | d (x : PyData)
  | v (x : V)
  | p (φ : V → Hp → Prop) (m : ∀ v H H', Same H H' → φ v H → φ v H')
  | u
def SlOk (K : PySem.W.Frag) (Hd : Hp) : Option V → Sl → Prop
  | o, .v x => o = some x
  | _, .u => True
  | some v, .d d => Dt K Hd v d
  | some v, .p φ _ => φ v Hd
  | none, .d _ => False
  | none, .p _ _ => False
theorem slOk_mono {K : PySem.W.Frag} {H H' : Hp} (e : Same H H') : ∀ {o : Option V} {s : Sl}, SlOk K H o s → SlOk K H' o s
  | _, .v _, h => h
  | _, .u, _ => trivial
  | some _, .d _, h => dp_mono e h
  | some _, .p _ m, h => m _ _ _ e h
  | none, .d _, h => h
  | none, .p _ _, h => h
/-- what an owned object is known to hold -/
inductive OD where
  | lst (xs : List Sl)
  | dk (kvs : List (Key × Sl))
  | ins (C dx : Addr) (fs : List (Str × Sl))
  | raw (o : HO)
  | p (φ : HO → Hp → Prop) (m : ∀ o H H', Same H H' → φ o H → φ o H')
def ItOk (K : PySem.W.Frag) (Hd : Hp) (v : V) (s : Sl) : Prop := SlOk K Hd (some v) s
def PrOk {κ : Type} (K : PySem.W.Frag) (Hd : Hp) (p : κ × V) (q : κ × Sl) : Prop := p.1 = q.1 ∧ SlOk K Hd (some p.2) q.2
def ODok (K : PySem.W.Frag) (Hd : Hp) (o : HO) : OD → Prop
  | .lst xs => ∃ vs, o = .lst vs ∧ Paired (ItOk K Hd) vs xs
  | .dk kvs => ∃ ws, o = .dK ws ∧ Paired (PrOk K Hd) ws kvs
  | .ins C dx fs => ∃ ws, o = .ins C dx ws ∧ Paired (PrOk K Hd) ws fs
  | .raw o' => o = o'
  | .p φ _ => φ o Hd
theorem paired_mono {α β : Type} {R R' : α → β → Prop} (h : ∀ a b, R a b → R' a b) : ∀ {xs : List α} {ys : List β}, Paired R xs ys → Paired R' xs ys
  | _, _, .nil => .nil
  | _, _, .cons a t => .cons (h _ _ a) (paired_mono h t)
theorem odOk_mono {K : PySem.W.Frag} {H H' : Hp} (e : Same H H') {o : HO} : ∀ {od : OD}, ODok K H o od → ODok K H' o od
  | .lst _, ⟨vs, h, r⟩ => ⟨vs, h, paired_mono (fun _ _ q => slOk_mono e q) r⟩
  | .dk _, ⟨vs, h, r⟩ => ⟨vs, h, paired_mono (fun _ _ q => ⟨q.1, slOk_mono e q.2⟩) r⟩
  | .ins _ _ _, ⟨vs, h, r⟩ => ⟨vs, h, paired_mono (fun _ _ q => ⟨q.1, slOk_mono e q.2⟩) r⟩
  | .raw _, h => h
  | .p _ m, h => m _ _ _ e h
theorem paired_get {α β : Type} {R : α → β → Prop} : ∀ {xs : List α} {ys : List β} {i : Nat} {y : β}, Paired R xs ys → ys[i]? = some y → ∃ x, xs[i]? = some x ∧ R x y
  | _, _, _, _, .nil, h => by simp at h
  | _, _, 0, _, .cons h r, e => by simp at e; subst e; exact ⟨_, rfl, h⟩
  | _, _, i + 1, _, .cons h r, e => by simpa using paired_get (i := i) r (by simpa using e)
theorem paired_length {α β : Type} {R : α → β → Prop} : ∀ {xs : List α} {ys : List β}, Paired R xs ys → xs.length = ys.length
  | _, _, .nil => rfl
  | _, _, .cons _ r => by rw [List.length_cons, List.length_cons, paired_length r]
theorem paired_set {α β : Type} {R : α → β → Prop} {x : α} {y : β} (h : R x y) : ∀ {xs : List α} {ys : List β} (i : Nat), Paired R xs ys → Paired R (xs.set i x) (ys.set i y)
  | _, _, _, .nil => .nil
  | _, _, 0, .cons _ r => .cons h r
  | _, _, i + 1, .cons q r => .cons q (paired_set h i r)
theorem paired_append {α β : Type} {R : α → β → Prop} : ∀ {xs zs : List α} {ys ws : List β}, Paired R xs ys → Paired R zs ws → Paired R (xs ++ zs) (ys ++ ws)
  | _, _, _, _, .nil, s => s
  | _, _, _, _, .cons h r, s => .cons h (paired_append r s)
theorem paired_of_dp {K : PySem.W.Frag} {H : Hp} : ∀ {vs : List V} {ds : List PyData}, DtAll K H vs ds → Paired (ItOk K H) vs (ds.map .d)
  | _, _, .nil => .nil
  | _, _, .cons h r => .cons h (paired_of_dp r)
theorem dp_of_paired {K : PySem.W.Frag} {H : Hp} : ∀ {ds : List PyData} {vs : List V}, Paired (ItOk K H) vs (ds.map .d) → DtAll K H vs ds
  | [], _, h => by cases h; exact .nil
  | d :: ds, _, h => by cases h with | cons h r => exact .cons h (dp_of_paired r)
/-- the frame's knowledge -/
structure G where
  sl : List Sl
  ow : List (Addr × OD)
abbrev G.dom (g : G) : List Addr := g.ow.map (·.1)
/-- the def's own: what is shared with callers and hidden from us (S), the heap at the entry, what of it we may change (M) -/
structure Fm where
  S : List Addr
  H0 : Hp
  M : List Addr
abbrev Fm.hd (F : Fm) (g : G) (H : Hp) : Hp := hid (F.S ++ g.dom) H
structure Sat (K : PySem.W.Frag) (F : Fm) (g : G) (σ : St) (H : Hp) : Prop where
  sl : Paired (SlOk K (F.hd g H)) σ g.sl
  ow : ∀ p ∈ g.ow, ∃ o, H p.1 = some o ∧ ODok K (F.hd g H) o p.2
  nd : g.dom.Nodup
  ex : ∀ b o, F.H0 b = some o → b ∉ F.M → H b = some o
  fr : ∀ a ∈ g.dom, F.H0 a = none ∨ a ∈ F.M
  sH : ∀ a ∈ F.S, F.H0 a ≠ none ∧ a ∉ F.M
  mH : ∀ a ∈ F.M, H a ≠ none
/-- the heap has grown: all stands -/
theorem Sat.grow {K : PySem.W.Frag} {F : Fm} {g : G} {σ : St} {H H' : Hp} (s : Sat K F g σ H) (e : Same H H') : Sat K F g σ H' where
  sl := paired_mono (fun _ _ q => slOk_mono (hid_same e) q) s.sl
  ow := fun p hp => let ⟨o, h, q⟩ := s.ow p hp; ⟨o, e _ _ h, odOk_mono (hid_same e) q⟩
  nd := s.nd
  ex := fun b o q m => e b o (s.ex b o q m)
  fr := s.fr
  sH := s.sH
  mH := fun a h z => by
    cases q : H a with
    | none => exact s.mH a h q
    | some o => rw [e a o q] at z; cases z
theorem Sat.sIn {K : PySem.W.Frag} {F : Fm} {g : G} {σ : St} {H : Hp} (s : Sat K F g σ H) {a : Addr} (h : a ∈ F.S) : H a ≠ none := fun e => by
  obtain ⟨h1, h2⟩ := s.sH a h
  cases q : F.H0 a with
  | none => exact h1 q
  | some o => rw [s.ex a o q h2] at e; cases e
theorem Sat.owIn {K : PySem.W.Frag} {F : Fm} {g : G} {σ : St} {H : Hp} (s : Sat K F g σ H) {a : Addr} (h : a ∈ g.dom) : H a ≠ none := fun e => by
  obtain ⟨p, hp, rfl⟩ := List.mem_map.mp h
  obtain ⟨o, q, _⟩ := s.ow p hp
  rw [q] at e; cases e
theorem Sat.hidIn {K : PySem.W.Frag} {F : Fm} {g : G} {σ : St} {H : Hp} (s : Sat K F g σ H) {a : Addr} (h : a ∈ F.S ++ g.dom) : H a ≠ none := by
  rcases List.mem_append.mp h with h | h
  · exact s.sIn h
  · exact s.owIn h
theorem Sat.newOut {K : PySem.W.Frag} {F : Fm} {g : G} {σ : St} {H : Hp} (s : Sat K F g σ H) {a : Addr} (h : H a = none) : a ∉ F.S ++ g.dom := fun m => s.hidIn m h
theorem Sat.newM {K : PySem.W.Frag} {F : Fm} {g : G} {σ : St} {H : Hp} (s : Sat K F g σ H) {a : Addr} (h : H a = none) : a ∉ F.M := fun m => s.mH a m h
theorem Sat.fresh0 {K : PySem.W.Frag} {F : Fm} {g : G} {σ : St} {H : Hp} (s : Sat K F g σ H) {a : Addr} (h : H a = none) : F.H0 a = none := by
  cases q : F.H0 a with
  | none => rfl
  | some o => rw [s.ex a o q (s.newM h)] at h; cases h
/-- a new object, shared from now on (hidden from nobody) -/
theorem Sat.newShared {K : PySem.W.Frag} {F : Fm} {g : G} {σ : St} {H : Hp} (s : Sat K F g σ H) {p : Addr} {o : HO} (h : H p = none) : Sat K F g σ (upd H p o) := s.grow (same_new h)
/-- a new object of our own -/
theorem Sat.newOwn {K : PySem.W.Frag} {F : Fm} {g : G} {σ : St} {H : Hp} (s : Sat K F g σ H) {p : Addr} {o : HO} {od : OD} (h : H p = none) (q : ODok K (F.hd g H) o od) : Sat K F ⟨g.sl, g.ow ++ [(p, od)]⟩ σ (upd H p o) := by
  have hs : Same (F.hd g H) (F.hd ⟨g.sl, g.ow ++ [(p, od)]⟩ (upd H p o)) := hid_mono (same_new h) fun a m => by
    rcases List.mem_append.mp m with m | m
    · exact .inl (List.mem_append_left _ m)
    · rw [show G.dom ⟨g.sl, g.ow ++ [(p, od)]⟩ = g.dom ++ [p] by simp [G.dom]] at m
      rcases List.mem_append.mp m with m | m
      · exact .inl (List.mem_append_right _ m)
      · rw [List.mem_singleton] at m; exact .inr (m ▸ h)
  have nd : p ∉ g.dom := fun m => s.owIn m h
  refine ⟨paired_mono (fun _ _ k => slOk_mono hs k) s.sl, fun x hx => ?_, ?_, fun b u k m => same_new h b u (s.ex b u k m), fun a m => ?_, s.sH, fun a m => ?_⟩
  · rcases List.mem_append.mp hx with hx | hx
    · obtain ⟨u, h1, h2⟩ := s.ow x hx
      exact ⟨u, same_new h _ _ h1, odOk_mono hs h2⟩
    · rw [List.mem_singleton] at hx
      subst hx
      exact ⟨o, upd_same, odOk_mono hs q⟩
  · rw [show G.dom ⟨g.sl, g.ow ++ [(p, od)]⟩ = g.dom ++ [p] by simp [G.dom]]
    exact List.nodup_append.mpr ⟨s.nd, by simp, fun a ha b hb e => nd (by rw [List.mem_singleton] at hb; rw [← hb, ← e]; exact ha)⟩
  · rw [show G.dom ⟨g.sl, g.ow ++ [(p, od)]⟩ = g.dom ++ [p] by simp [G.dom]] at m
    rcases List.mem_append.mp m with m | m
    · exact s.fr a m
    · rw [List.mem_singleton] at m; exact .inl (m ▸ s.fresh0 h)
  · by_cases e : a = p
    · rw [e, upd_same]; simp
    · rw [upd_ne e]; exact s.mH a m
end DL
end L2
set_option Elab.async false
set_option linter.all false
set_option maxRecDepth 100000
set_option maxHeartbeats 4000000
namespace L2
namespace DL
open PySem PySem.Spec PyProof.Rows
/-! ### pieces of syntax by what they do -/
def eS (X : Cx) (e : Expr) : TE := fun σ H Q => ∀ pins s, Inv X pins σ H s → wpAny (model X.prog X.w) X.A (eval e X.env) (EP X pins σ Q) X.xe s
def tS (X : Cx) (e : Expr) : TT := fun σ H Q => ∀ pins s, Inv X pins σ H s → wpAny (model X.prog X.w) X.A (isTrue e X.env (eval e X.env)) (TP X pins σ Q) X.xe s
def aS (X : Cx) (es : List Expr) : TA := fun σ H Q => ∀ pos pins s, Inv X pins σ H s → wpAny (model X.prog X.w) X.A (spliced (backTo pos (starEach es X.env))) (AP X pins σ Q) X.xe s
def uS (X : Cx) (sts : List Stmt) : TS := fun D σ H => ∀ pins s, Inv X pins σ H s → wpAny (model X.prog X.w) X.A (execs sts X.env) (SP X pins D) X.xe s
def sS (X : Cx) (st : Stmt) : TS := fun D σ H => ∀ pins s, Inv X pins σ H s → wpAny (model X.prog X.w) X.A (exec st X.env) (SP X pins D) X.xe s
variable {X : Cx}
theorem pe_s {e : Expr} : PE X e (eS X e) := ⟨fun pins s _ _ _ I h => h pins s I⟩
theorem pt_s {e : Expr} : PT X e (tS X e) := ⟨fun pins s _ _ _ I h => h pins s I⟩
theorem pa_s {es : List Expr} : PA X es (aS X es) := ⟨fun pos pins s _ _ _ I h => h pos pins s I⟩
theorem pss_s {sts : List Stmt} : PSs X sts (uS X sts) := ⟨fun pins s _ _ _ I h => h pins s I⟩
theorem ps_s {st : Stmt} : PS X st (sS X st) := ⟨fun pins s _ _ _ I h => h pins s I⟩
theorem eS_of {e : Expr} {t : TE} (h : PE X e t) {σ : St} {H : Hp} {Q : VK} (q : t σ H Q) : eS X e σ H Q := fun pins s I => h.run pins s σ H Q I q
theorem tS_of {e : Expr} {t : TT} (h : PT X e t) {σ : St} {H : Hp} {Q : Bool → Hp → Prop} (q : t σ H Q) : tS X e σ H Q := fun pins s I => h.run pins s σ H Q I q
theorem aS_of {es : List Expr} {t : TA} (h : PA X es t) {σ : St} {H : Hp} {Q : List V → Hp → Prop} (q : t σ H Q) : aS X es σ H Q := fun pos pins s I => h.run pos pins s σ H Q I q
theorem uS_of {sts : List Stmt} {t : TS} (h : PSs X sts t) {σ : St} {H : Hp} {D : Ends} (q : t D σ H) : uS X sts D σ H := fun pins s I => h.run pins s σ H D I q
theorem sS_of {st : Stmt} {t : TS} (h : PS X st t) {σ : St} {H : Hp} {D : Ends} (q : t D σ H) : sS X st D σ H := fun pins s I => h.run pins s σ H D I q
/-! ### the judgements -/
/-- e gives what r tells; the owned objects are then as in g' -/
structure DE (X : Cx) (F : Fm) (g : G) (e : Expr) (g' : G) (r : Sl) : Prop where
  dom : g'.dom = g.dom
  run : ∀ σ H (Q : VK), Sat X.K F g σ H → (∀ v H', Sat X.K F g' σ H' → Same (F.hd g H) (F.hd g H') → SlOk X.K (F.hd g H') (some v) r → Q v H') → eS X e σ H Q
/-- e gives a new object that nobody else has -/
structure DN (X : Cx) (F : Fm) (g : G) (e : Expr) (g' : G) (od : OD) : Prop where
  dom : g'.dom = g.dom
  run : ∀ σ H (Q : VK), Sat X.K F g σ H → (∀ p H', p ∉ F.M → p ∉ F.S ++ g.dom → F.H0 p = none → Sat X.K F ⟨g'.sl, g'.ow ++ [(p, od)]⟩ σ H' → Same (F.hd g H) (hid (p :: (F.S ++ g.dom)) H') → Q (.ref p) H') → eS X e σ H Q
structure DT (X : Cx) (F : Fm) (g : G) (e : Expr) (g' : G) (b : Bool) : Prop where
  dom : g'.dom = g.dom
  run : ∀ σ H (Q : Bool → Hp → Prop), Sat X.K F g σ H → (∀ H', Sat X.K F g' σ H' → Same (F.hd g H) (F.hd g H') → Q b H') → tS X e σ H Q
structure DA (X : Cx) (F : Fm) (g : G) (es : List Expr) (g' : G) (rs : List Sl) : Prop where
  dom : g'.dom = g.dom
  run : ∀ σ H (Q : List V → Hp → Prop), Sat X.K F g σ H → (∀ vs H', Sat X.K F g' σ H' → Same (F.hd g H) (F.hd g H') → Paired (ItOk X.K (F.hd g H')) vs rs → Q vs H') → aS X es σ H Q
/-- what is wanted behind a block -/
structure Z where
  nx : G → Prop
  rt : G → Sl → Prop
  bk : G → Prop := fun _ => False
  ct : G → Prop := fun _ => False
  ex : G → Addr → Option (List (Str × PyData)) → Prop := fun _ _ _ => False
/-- the widest wish that an exception may meet -/
def XEnd (X : Cx) : WX := fun cls d σ H => ∃ W, L2N.Takes X W ∧ W cls d σ H
theorem takes_xend {X : Cx} : L2N.Takes X (XEnd X) := fun u s' ⟨a, B, sI, pins, σ, H, cls, d, e, I, nb, up, sky, na, os, ag, W, tk, w⟩ => tk u s' ⟨a, B, sI, pins, σ, H, cls, d, e, I, nb, up, sky, na, os, ag, w⟩
/-- what an exception holds -/
def ExOk (K : PySem.W.Frag) (Hd : Hp) (ofs : Option (List (Str × PyData))) (d : Option Addr) : Prop := match ofs with
  | none => d = none
  | some fs => ∃ (dx : Addr) (vs : List (Str × V)), d = some dx ∧ Hd dx = some (.xd vs) ∧ vs.map (·.1) = fs.map (·.1) ∧ DtAll K Hd (vs.map (·.2)) (fs.map (·.2))
theorem exOk_mono {K : PySem.W.Frag} {H H' : Hp} (e : Same H H') {ofs : Option (List (Str × PyData))} {d : Option Addr} (h : ExOk K H ofs d) : ExOk K H' ofs d := by
  cases ofs with
  | none => exact h
  | some fs =>
    obtain ⟨dx, vs, h1, h2, h3, h4⟩ := h
    exact ⟨dx, vs, h1, e _ _ h2, h3, dpAll_mono e h4⟩
structure ZOk (X : Cx) (F : Fm) (z : Z) (D : Ends) : Prop where
  nx : ∀ g σ H, z.nx g → Sat X.K F g σ H → D.nx σ H
  rt : ∀ g r σ v H, z.rt g r → Sat X.K F g σ H → SlOk X.K (F.hd g H) (some v) r → D.rt v H
  bk : ∀ g σ H, z.bk g → Sat X.K F g σ H → D.bk σ H
  ct : ∀ g σ H, z.ct g → Sat X.K F g σ H → D.ct σ H
  xx : ∀ g C ofs σ d H, z.ex g C ofs → Sat X.K F g σ H → ExOk X.K (F.hd g H) ofs d → XEnd X (.ref C) d σ H
structure DS (X : Cx) (F : Fm) (g : G) (sts : List Stmt) (z : Z) : Prop where
  run : ∀ σ H D, Sat X.K F g σ H → ZOk X F z D → uS X sts D σ H
instance {X : Cx} {F : Fm} {g : G} {sts : List Stmt} {z : Z} : CoeFun (DS X F g sts z) (fun _ => ∀ σ H D, Sat X.K F g σ H → ZOk X F z D → uS X sts D σ H) := ⟨DS.run⟩
variable {F : Fm} {g g1 g2 g3 : G} {e a b c : Expr} {es : List Expr} {r s t : Sl} {rs : List Sl} {pos : Pos}
theorem hd_dom {g g' : G} (h : g'.dom = g.dom) (H : Hp) : F.hd g' H = F.hd g H := by
  show hid (F.S ++ g'.dom) H = hid (F.S ++ g.dom) H
  rw [h]
/-- what a value's own reading gives, where nothing of ours changes -/
theorem de_of {t : TE} (p : PE X e t) (h : ∀ σ H (Q : VK), Sat X.K F g σ H → (∀ v H', Same H H' → SlOk X.K (F.hd g H') (some v) r → Q v H') → t σ H Q) : DE X F g e g r :=
  ⟨rfl, fun σ H Q s q => eS_of p (h σ H Q s fun v H' e k => q v H' (s.grow e) (hid_same e) k)⟩
theorem dt_of {t : TT} {b : Bool} (p : PT X e t) (h : ∀ σ H (Q : Bool → Hp → Prop), Sat X.K F g σ H → (∀ H', Same H H' → Q b H') → t σ H Q) : DT X F g e g b :=
  ⟨rfl, fun σ H Q s q => tS_of p (h σ H Q s fun H' e => q H' (s.grow e) (hid_same e))⟩
/-! ### names, constants -/
theorem sat_slot {σ : St} {H : Hp} (s : Sat X.K F g σ H) {i : Nat} {r : Sl} (h : g.sl[i]? = some r) : ∃ o, σ[i]? = some o ∧ SlOk X.K (F.hd g H) o r := paired_get s.sl h
/-- a name whose slot is known -/
theorem de_var (i : Nat) {x : Str} {d : PyData} (hs : g.sl[i]? = some (.d d) := by rfl) (hN : X.N[i]? = some x := by rfl) (hv : Vis X.env.scope x := by first | exact Or.inl rfl | exact Or.inr (Or.inl rfl) | exact Or.inr (Or.inr rfl)) (hd : (x == ("__debug__" : Str)) = false := by decide)
    (hcd : (x == ("__classdict__" : Str)) = false := by decide) : DE X F g (.Name x pos) g (.d d) :=
  de_of (pe_var (i := i) hN hv hd hcd) fun σ H Q s q => by
    obtain ⟨o, h1, h2⟩ := sat_slot s hs
    cases o with
    | none => exact h2.elim
    | some v => exact ⟨v, h1, q v H (Same.refl H) h2⟩
theorem de_varV (i : Nat) {x : Str} {v : V} (hs : g.sl[i]? = some (.v v) := by rfl) (hN : X.N[i]? = some x := by rfl) (hv : Vis X.env.scope x := by first | exact Or.inl rfl | exact Or.inr (Or.inl rfl) | exact Or.inr (Or.inr rfl)) (hd : (x == ("__debug__" : Str)) = false := by decide)
    (hcd : (x == ("__classdict__" : Str)) = false := by decide) : DE X F g (.Name x pos) g (.v v) :=
  de_of (pe_var (i := i) hN hv hd hcd) fun σ H Q s q => by
    obtain ⟨o, h1, h2⟩ := sat_slot s hs
    have e : o = some v := h2
    subst e
    exact ⟨v, h1, q v H (Same.refl H) rfl⟩
theorem de_int {i : Int} {j} : DE X F g (.Constant (.int i) j pos) g (.d (.int i)) := de_of pe_int fun σ H Q s q => q _ H (Same.refl H) (Dt.int i)
theorem de_bl {i : Bool} {j} : DE X F g (.Constant (.bool i) j pos) g (.d (.bool i)) := de_of pe_bl fun σ H Q s q => q _ H (Same.refl H) (Dt.bl i)
theorem de_str {i : Str} {j} : DE X F g (.Constant (.str i) j pos) g (.d (.str i)) := de_of pe_str fun σ H Q s q => q _ H (Same.refl H) (Dt.str i)
theorem de_non {j} : DE X F g (.Constant .none j pos) g (.d .none) := de_of pe_non fun σ H Q s q => q _ H (Same.refl H) Dt.non
/-- a module's constant that reads as data in every heap -/
theorem de_glob {x : Str} {v : V} {u : Value} {d : PyData} (hg : Gl X x) (hm : X.mg x = some u) (rv : RelV v u) (hd : ∀ H, Dt X.K H v d) (hdb : (x == ("__debug__" : Str)) = false := by decide) : DE X F g (.Name x pos) g (.d d) :=
  de_of (pe_glob hg hm rv hdb) fun σ H Q s q => q _ H (Same.refl H) (hd _)
/-! ### two-place operations -/
/-- an operation on data -/
def OpD (X : Cx) (K : PySem.W.Frag) (f : Value → Value → Sem Value) (a b c : PyData) : Prop := ∃ r, OpR X f r ∧ ∀ S H x y (Q : VK), Dt K (hid S H) x a → Dt K (hid S H) y b → (∀ z H', Same H H' → (∀ p ∈ S, H p ≠ none) → Dt K (hid S H') z c → Q z H') → (∀ p ∈ S, H p ≠ none) → r x y H Q
/-- operations whose answer leans on no object -/
theorem opD_flat {K : PySem.W.Frag} {f : Value → Value → Sem Value} {r : R2} {a b c : PyData} (h : OpR X f r) (z : V) (hz : ∀ H, Dt K H z c) (q : ∀ S H x y (Q : VK), Dt K (hid S H) x a → Dt K (hid S H) y b → Q z H → r x y H Q) : OpD X K f a b c :=
  ⟨r, h, fun S H x y Q hx hy k m => q S H x y Q hx hy (k z H (Same.refl H) m (hz _))⟩
theorem opD_I0 {K : PySem.W.Frag} {f : Value → Value → Sem Value} {gf : Int → Int → V} {i j : Int} {c : PyData} (h : OpR X f (rI0 gf)) (hz : ∀ H, Dt K H (gf i j) c) : OpD X K f (.int i) (.int j) c :=
  opD_flat h _ hz fun S H x y Q hx hy k => by cases hx; cases hy; exact ⟨i, j, rfl, rfl, k⟩
theorem opD_I {K : PySem.W.Frag} {f : Value → Value → Sem Value} {C : Int → Int → Prop} {gf : Int → Int → V} {i j : Int} {c : PyData} (h : OpR X f (rI C gf)) (hc : C i j) (hz : ∀ H, Dt K H (gf i j) c) : OpD X K f (.int i) (.int j) c :=
  opD_flat h _ hz fun S H x y Q hx hy k => by cases hx; cases hy; exact ⟨i, j, rfl, rfl, hc, k⟩
section ops
variable {K : PySem.W.Frag} {i j : Int}
theorem o_add : OpD X K (binaryOp .Add) (.int i) (.int j) (.int (i + j)) := opD_I0 op_add fun _ => .int _
theorem o_sub : OpD X K (binaryOp .Sub) (.int i) (.int j) (.int (i - j)) := opD_I0 op_sub fun _ => .int _
theorem o_mul (h : CMul i j) : OpD X K (binaryOp .Mult) (.int i) (.int j) (.int (i * j)) := opD_I op_mul h fun _ => .int _
theorem o_fdiv (h : CDiv i j) : OpD X K (binaryOp .FloorDiv) (.int i) (.int j) (.int (i / j)) := opD_I op_fdiv h fun _ => .int _
theorem o_mod (h : 0 < j) : OpD X K (binaryOp .Mod) (.int i) (.int j) (.int (i % j)) := opD_I op_mod h fun _ => .int _
theorem o_pow (h : CPow i j) : OpD X K (binaryOp .Pow) (.int i) (.int j) (.int (i ^ j.toNat)) := opD_I op_pow h fun _ => .int _
theorem o_lt : OpD X K (compareOp .Lt) (.int i) (.int j) (.bool (decide (i < j))) := opD_I0 op_lt fun _ => .bl _
theorem o_le : OpD X K (compareOp .LtE) (.int i) (.int j) (.bool (decide (i ≤ j))) := opD_I0 op_le fun _ => .bl _
theorem o_gt : OpD X K (compareOp .Gt) (.int i) (.int j) (.bool (decide (j < i))) := opD_I0 op_gt fun _ => .bl _
theorem o_ge : OpD X K (compareOp .GtE) (.int i) (.int j) (.bool (decide (j ≤ i))) := opD_I0 op_ge fun _ => .bl _
theorem o_eq : OpD X K (compareOp .Eq) (.int i) (.int j) (.bool (decide (i = j))) := opD_flat op_eq (.bl (decide (V.int i = V.int j))) (fun H => by
    have e : decide (V.int i = V.int j) = decide (i = j) := by rw [dec_int, Bool.beq_eq_decide_eq]
    rw [e]; exact .bl _) fun S H x y Q hx hy k => by cases hx; cases hy; exact ⟨rfl, k⟩
theorem o_ne : OpD X K (compareOp .NotEq) (.int i) (.int j) (.bool (!decide (i = j))) := opD_flat op_ne (.bl (!decide (V.int i = V.int j))) (fun H => by
    have e : decide (V.int i = V.int j) = decide (i = j) := by rw [dec_int, Bool.beq_eq_decide_eq]
    rw [e]; exact .bl _) fun S H x y Q hx hy k => by cases hx; cases hy; exact ⟨rfl, k⟩
theorem o_eqS {i j : Str} : OpD X K (compareOp .Eq) (.str i) (.str j) (.bool (decide (i = j))) := opD_flat op_eq (.bl (decide (V.str i = V.str j))) (fun H => by
    have e : decide (V.str i = V.str j) = decide (i = j) := by simp
    rw [e]; exact .bl _) fun S H x y Q hx hy k => by cases hx; cases hy; exact ⟨rfl, k⟩
theorem o_neS {i j : Str} : OpD X K (compareOp .NotEq) (.str i) (.str j) (.bool (!decide (i = j))) := opD_flat op_ne (.bl (!decide (V.str i = V.str j))) (fun H => by
    have e : decide (V.str i = V.str j) = decide (i = j) := by simp
    rw [e]; exact .bl _) fun S H x y Q hx hy k => by cases hx; cases hy; exact ⟨rfl, k⟩
theorem o_isN {d : PyData} : OpD X K (compareOp .Is) d .none (.bool (match d with | .none => true | _ => false)) := opD_flat op_isN (.bl (match d with | .none => true | _ => false)) (fun _ => .bl _) fun S H x y Q hx hy k => by
  cases hy
  refine ⟨rfl, ?_⟩
  cases hx <;> exact k
theorem o_notN {d : PyData} : OpD X K (compareOp .IsNot) d .none (.bool (match d with | .none => false | _ => true)) := opD_flat op_notN (.bl (match d with | .none => false | _ => true)) (fun _ => .bl _) fun S H x y Q hx hy k => by
  cases hy
  refine ⟨rfl, ?_⟩
  cases hx <;> exact k
theorem o_eqD {d e : PyData} (hu : X.A.units + 64 < cLine) (hd : SeqAt.shaped d = true) (he : SeqAt.shaped e = true) : OpD X X.K (compareOp .Eq) d e (.bool (PyData.eqv d e)) :=
  opD_flat (op_eqD hu) (.bl (PyData.eqv d e)) (fun _ => .bl _) fun S H x y Q hx hy k => by
    exact ⟨d, e, dt_dp (dp_mono (fun b o q => (hid_some q).2) hx), dt_dp (dp_mono (fun b o q => (hid_some q).2) hy), hd, he, k⟩
theorem o_neD {d e : PyData} (hu : X.A.units + 64 < cLine) (hd : SeqAt.shaped d = true) (he : SeqAt.shaped e = true) : OpD X X.K (compareOp .NotEq) d e (.bool (!PyData.eqv d e)) :=
  opD_flat (op_neD hu) (.bl (!PyData.eqv d e)) (fun _ => .bl _) fun S H x y Q hx hy k => by
    exact ⟨d, e, dt_dp (dp_mono (fun b o q => (hid_some q).2) hx), dt_dp (dp_mono (fun b o q => (hid_some q).2) hy), hd, he, k⟩
theorem o_catS {i j : Str} (h : i.length + j.length ≤ sizeLine) : OpD X K (binaryOp .Add) (.str i) (.str j) (.str (i ++ j)) := opD_flat op_add_str (.str (i ++ j)) (fun _ => .str _) fun S H x y Q hx hy k => by
  cases hx; cases hy; exact ⟨i, j, rfl, rfl, h, k⟩
end ops
/-- the values' part of two expressions in a row -/
theorem de_two {da db dc : PyData} {rr : R2} {t : TE} (p : PE X e t) (ht : ∀ σ H Q, t σ H Q = tOp rr (eS X a) (eS X b) σ H Q)
    (ha : DE X F g a g1 (.d da)) (hb : DE X F g1 b g2 (.d db))
    (h : ∀ S H x y (Q : VK), Dt X.K (hid S H) x da → Dt X.K (hid S H) y db → (∀ z H', Same H H' → (∀ p ∈ S, H p ≠ none) → Dt X.K (hid S H') z dc → Q z H') → (∀ p ∈ S, H p ≠ none) → rr x y H Q) : DE X F g e g2 (.d dc) := by
  refine ⟨hb.dom.trans ha.dom, fun σ H Q s q => eS_of p ?_⟩
  rw [ht]
  refine ha.run σ H _ s fun x H1 s1 k1 x1 => hb.run σ H1 _ s1 fun y H2 s2 k2 y2 => ?_
  rw [hd_dom ha.dom] at k2 y2
  rw [hd_dom ha.dom] at k2
  refine h (F.S ++ g.dom) H2 x y Q (dp_mono k2 x1) y2 (fun z H3 e3 _ z3 => q z H3 (s2.grow e3) (k1.trans (k2.trans (hid_same e3))) z3) fun p hp => s2.hidIn (by rw [hb.dom, ha.dom]; exact hp)
theorem de_bin {op : Operator} {da db dc : PyData} (ho : OpD X X.K (binaryOp op) da db dc) (ha : DE X F g a g1 (.d da)) (hb : DE X F g1 b g2 (.d db)) : DE X F g (.BinOp a op b pos) g2 (.d dc) := by
  obtain ⟨rr, h1, h2⟩ := ho
  exact de_two (pe_op h1 pe_s pe_s) (fun _ _ _ => rfl) ha hb h2
theorem de_cmp {op : CmpOp} {da db dc : PyData} (ho : OpD X X.K (compareOp op) da db dc) (ha : DE X F g a g1 (.d da)) (hb : DE X F g1 b g2 (.d db)) (hm : behindInMarks op b = false := by first | exact nomark _ | rfl | with_unfolding_all rfl) :
    DE X F g (.Compare a [op] [b] pos) g2 (.d dc) := by
  obtain ⟨rr, h1, h2⟩ := ho
  exact de_two (pe_cmpR h1 pe_s pe_s hm) (fun _ _ _ => rfl) ha hb h2
/-! ### tests -/
/-- an expression whose value is a bool, as a test -/
theorem dt_val {k : Bool} (h : DE X F g e g1 (.d (.bool k))) (he : ∀ whole, isTrue e X.env whole = (do let v ← whole; standAt e.pos; holding [v] (truthy v)) := by intro _; rfl) : DT X F g e g1 k :=
  ⟨h.dom, fun σ H Q s q => tS_of (pt_val pe_s he) (h.run σ H _ s fun v H' s' k' r => by cases r; exact ⟨_, rfl, q H' s' k'⟩)⟩
theorem dt_cmp {op : CmpOp} {k : Bool} {da db : PyData} (ho : OpD X X.K (compareOp op) da db (.bool k)) (ha : DE X F g a g1 (.d da)) (hb : DE X F g1 b g2 (.d db)) (hm : behindInMarks op b = false := by first | exact nomark _ | rfl | with_unfolding_all rfl) :
    DT X F g (.Compare a [op] [b] pos) g2 k := by
  have h := de_cmp (pos := pos) ho ha hb hm
  obtain ⟨rr, h1, h2⟩ := ho
  refine ⟨h.dom, fun σ H Q s q => tS_of (pt_cmpR h1 pe_s pe_s hm) ?_⟩
  refine ha.run σ H _ s fun x H1 s1 k1 x1 => hb.run σ H1 _ s1 fun y H2 s2 k2 y2 => ?_
  rw [hd_dom ha.dom] at k2 y2
  rw [hd_dom ha.dom] at k2
  refine h2 (F.S ++ g.dom) H2 x y _ (dp_mono k2 x1) y2 (fun z H3 e3 _ z3 => ?_) fun p hp => s2.hidIn (by rw [hb.dom, ha.dom]; exact hp)
  cases z3
  exact ⟨k, rfl, q H3 (s2.grow e3) (k1.trans (k2.trans (hid_same e3)))⟩
theorem dt_not {k : Bool} (h : DT X F g a g1 k) : DT X F g (.UnaryOp .Not a pos) g1 (!k) :=
  ⟨h.dom, fun σ H Q s q => tS_of (pt_not pt_s) (h.run σ H _ s fun H' s' k' => q H' s' k')⟩
theorem dt_is {k k' : Bool} (h : DT X F g a g1 k) (e : k = k') : DT X F g a g1 k' := e ▸ h
end DL
end L2
set_option Elab.async false
set_option linter.all false
set_option maxRecDepth 100000
set_option maxHeartbeats 4000000
namespace L2
namespace DL
open PySem PySem.Spec PyProof.Rows
variable {X : Cx} {F : Fm} {g g1 g2 g3 : G} {e a b c : Expr} {es : List Expr} {r s t : Sl} {rs : List Sl} {pos : Pos}
theorem de_is {d d' : PyData} (h : DE X F g e g1 (.d d)) (q : d = d') : DE X F g e g1 (.d d') := q ▸ h
theorem de_isG {g' : G} (h : DE X F g e g1 r) (q : g1 = g') : DE X F g e g' r := q ▸ h
/-! ### and, or, if-else, chains -/
def wS (X : Cx) (e : Expr) : TT := fun σ H Q => ∀ whole pins s, Inv X pins σ H s → wpAny (model X.prog X.w) X.A (isTrue e X.env whole) (TP X pins σ Q) X.xe s
theorem pw_s : PW X e (wS X e) := ⟨fun whole pins s _ _ _ I h => h whole pins s I⟩
theorem wS_of {t : TT} (h : PW X e t) {σ : St} {H : Hp} {Q : Bool → Hp → Prop} (q : t σ H Q) : wS X e σ H Q := fun whole pins s I => h.run whole pins s σ H Q I q
/-- and, or as a test -/
structure DW (X : Cx) (F : Fm) (g : G) (e : Expr) (g' : G) (b : Bool) : Prop where
  dom : g'.dom = g.dom
  run : ∀ σ H (Q : Bool → Hp → Prop), Sat X.K F g σ H → (∀ H', Sat X.K F g' σ H' → Same (F.hd g H) (F.hd g H') → Q b H') → wS X e σ H Q
theorem dw_and1 {k : Bool} (h : DT X F g a g1 k) : DW X F g (.BoolOp .And [a] pos) g1 k := ⟨h.dom, fun σ H Q s q => wS_of (pw_and1 pt_s) (h.run σ H Q s q)⟩
theorem dw_or1 {k : Bool} (h : DT X F g a g1 k) : DW X F g (.BoolOp .Or [a] pos) g1 k := ⟨h.dom, fun σ H Q s q => wS_of (pw_or1 pt_s) (h.run σ H Q s q)⟩
theorem dw_and {rest : List Expr} {k l : Bool} (ha : DT X F g a g1 k) (hb : k = true → DW X F g1 (.BoolOp .And (b :: rest) pos) g1 l) : DW X F g (.BoolOp .And (a :: b :: rest) pos) g1 (k && l) := by
  refine ⟨ha.dom, fun σ H Q s q => wS_of (pw_and pt_s pw_s) (ha.run σ H _ s fun H1 s1 k1 => ?_)⟩
  cases k with
  | false => exact q H1 s1 k1
  | true =>
    refine (hb rfl).run σ H1 Q s1 fun H2 s2 k2 => ?_
    rw [hd_dom ha.dom, hd_dom ha.dom] at k2
    exact q H2 s2 (k1.trans k2)
/-- .. where what follows may draw -/
theorem dw_andM {rest : List Expr} {k l : Bool} (ha : DT X F g a g1 k) (hb : k = true → DW X F g1 (.BoolOp .And (b :: rest) pos) g2 l) : DW X F g (.BoolOp .And (a :: b :: rest) pos) (if k = true then g2 else g1) (k && l) := by
  cases k with
  | false => exact ⟨ha.dom, fun σ H Q s q => wS_of (pw_and pt_s pw_s) (ha.run σ H _ s fun H1 s1 k1 => q H1 s1 k1)⟩
  | true =>
    refine ⟨(hb rfl).dom.trans ha.dom, fun σ H Q s q => wS_of (pw_and pt_s pw_s) (ha.run σ H _ s fun H1 s1 k1 => ?_)⟩
    refine (hb rfl).run σ H1 Q s1 fun H2 s2 k2 => ?_
    rw [hd_dom ha.dom, hd_dom ha.dom] at k2
    exact q H2 s2 (k1.trans k2)
theorem dw_or {rest : List Expr} {k l : Bool} (ha : DT X F g a g1 k) (hb : k = false → DW X F g1 (.BoolOp .Or (b :: rest) pos) g1 l) : DW X F g (.BoolOp .Or (a :: b :: rest) pos) g1 (k || l) := by
  refine ⟨ha.dom, fun σ H Q s q => wS_of (pw_or pt_s pw_s) (ha.run σ H _ s fun H1 s1 k1 => ?_)⟩
  cases k with
  | true => exact q H1 s1 k1
  | false =>
    refine (hb rfl).run σ H1 Q s1 fun H2 s2 k2 => ?_
    rw [hd_dom ha.dom, hd_dom ha.dom] at k2
    exact q H2 s2 (k1.trans k2)
theorem dt_w {k : Bool} (h : DW X F g e g1 k) : DT X F g e g1 k := ⟨h.dom, fun σ H Q s q => tS_of pw_s.pt (h.run σ H Q s q)⟩
theorem de_one {op} (h : DE X F g a g1 r) : DE X F g (.BoolOp op [a] pos) g1 r := ⟨h.dom, fun σ H Q s q => eS_of (pe_one pe_s) (h.run σ H Q s q)⟩
theorem de_and {rest : List Expr} {k l : Bool} (ha : DE X F g a g1 (.d (.bool k))) (hb : k = true → DE X F g1 (.BoolOp .And (b :: rest) pos) g1 (.d (.bool l))) : DE X F g (.BoolOp .And (a :: b :: rest) pos) g1 (.d (.bool (k && l))) := by
  refine ⟨ha.dom, fun σ H Q s q => eS_of (pe_and pe_s pe_s) (ha.run σ H _ s fun v H1 s1 k1 x1 => ?_)⟩
  cases x1
  refine ⟨k, rfl, ?_⟩
  cases k with
  | false => exact q _ H1 s1 k1 (Dt.bl _)
  | true =>
    refine (hb rfl).run σ H1 Q s1 fun v H2 s2 k2 x2 => ?_
    rw [hd_dom ha.dom, hd_dom ha.dom] at k2
    rw [hd_dom ha.dom] at x2
    exact q v H2 s2 (k1.trans k2) x2
theorem de_or {rest : List Expr} {k l : Bool} (ha : DE X F g a g1 (.d (.bool k))) (hb : k = false → DE X F g1 (.BoolOp .Or (b :: rest) pos) g1 (.d (.bool l))) : DE X F g (.BoolOp .Or (a :: b :: rest) pos) g1 (.d (.bool (k || l))) := by
  refine ⟨ha.dom, fun σ H Q s q => eS_of (pe_or pe_s pe_s) (ha.run σ H _ s fun v H1 s1 k1 x1 => ?_)⟩
  cases x1
  refine ⟨k, rfl, ?_⟩
  cases k with
  | true => exact q _ H1 s1 k1 (Dt.bl _)
  | false =>
    refine (hb rfl).run σ H1 Q s1 fun v H2 s2 k2 x2 => ?_
    rw [hd_dom ha.dom, hd_dom ha.dom] at k2
    rw [hd_dom ha.dom] at x2
    exact q v H2 s2 (k1.trans k2) x2
theorem de_not {k : Bool} (h : DE X F g a g1 (.d (.bool k))) (ht : DT X F g a g1 k) : DE X F g (.UnaryOp .Not a pos) g1 (.d (.bool (!k))) :=
  ⟨h.dom, fun σ H Q s q => eS_of (pe_not pe_s) (h.run σ H _ s fun v H' s' k' x => by cases x; exact ⟨k, rfl, q _ H' s' k' (Dt.bl _)⟩)⟩
theorem de_ifR {k : Bool} (hc : DT X F g c g1 k) (ha : k = true → DE X F g1 a g2 r) (hb : k = false → DE X F g1 b g2 r) : DE X F g (.IfExp c a b pos) g2 r := by
  have hd : g2.dom = g.dom := by
    cases k with
    | true => exact (ha rfl).dom.trans hc.dom
    | false => exact (hb rfl).dom.trans hc.dom
  refine ⟨hd, fun σ H Q s q => eS_of (pe_ifExp pt_s pe_s pe_s) (hc.run σ H _ s fun H1 s1 k1 => ?_)⟩
  cases k with
  | true =>
    refine (ha rfl).run σ H1 Q s1 fun v H2 s2 k2 x2 => ?_
    rw [hd_dom hc.dom, hd_dom hc.dom] at k2
    rw [hd_dom hc.dom] at x2
    exact q v H2 s2 (k1.trans k2) x2
  | false =>
    refine (hb rfl).run σ H1 Q s1 fun v H2 s2 k2 x2 => ?_
    rw [hd_dom hc.dom, hd_dom hc.dom] at k2
    rw [hd_dom hc.dom] at x2
    exact q v H2 s2 (k1.trans k2) x2
theorem de_ifD {k : Bool} {d d' : PyData} (hc : DT X F g c g1 k) (ha : k = true → DE X F g1 a g1 (.d d)) (hb : k = false → DE X F g1 b g1 (.d d')) : DE X F g (.IfExp c a b pos) g1 (.d (if k = true then d else d')) := by
  cases k with
  | true => exact de_ifR hc (fun _ => ha rfl) (fun z => nomatch z)
  | false => exact de_ifR hc (fun z => nomatch z) (fun _ => hb rfl)
/-- a op1 b op2 c -/
theorem de_chain {op op' : CmpOp} {da db dc : PyData} {k l : Bool} (ho : OpD X X.K (compareOp op) da db (.bool k)) (ho' : OpD X X.K (compareOp op') db dc (.bool l)) (ha : DE X F g a g1 (.d da)) (hb : DE X F g1 b g2 (.d db)) (hc : k = true → DE X F g2 c g2 (.d dc))
    (hm : lastMarks [op, op'] [b, c] = false := by with_unfolding_all rfl) : DE X F g (.Compare a [op, op'] [b, c] pos) g2 (.d (.bool (k && l))) := by
  obtain ⟨rr, h1, h2⟩ := ho
  obtain ⟨rr', h1', h2'⟩ := ho'
  refine ⟨hb.dom.trans ha.dom, fun σ H Q s q => eS_of (pe_chain h1 h1' pe_s pe_s pe_s hm) ?_⟩
  refine ha.run σ H _ s fun x H1 s1 k1 x1 => hb.run σ H1 _ s1 fun y H2 s2 k2 y2 => ?_
  rw [hd_dom ha.dom, hd_dom ha.dom] at k2
  rw [hd_dom ha.dom] at y2
  refine h2 (F.S ++ g.dom) H2 x y _ (dp_mono k2 x1) y2 (fun z H3 e3 _ z3 => ?_) fun p hp => s2.hidIn (by rw [hb.dom, ha.dom]; exact hp)
  cases z3
  refine ⟨k, rfl, ?_⟩
  have k3 := k1.trans (k2.trans (hid_same (S := F.S ++ g.dom) e3))
  cases k with
  | false => exact q _ H3 (s2.grow e3) k3 (Dt.bl _)
  | true =>
    refine (hc rfl).run σ H3 _ (s2.grow e3) fun z H4 s4 k4 z4 => ?_
    rw [hd_dom (hb.dom.trans ha.dom), hd_dom (hb.dom.trans ha.dom)] at k4
    rw [hd_dom (hb.dom.trans ha.dom)] at z4
    refine h2' (F.S ++ g.dom) H4 y z Q (dp_mono k4 (dp_mono (hid_same e3) y2)) z4 (fun u H5 e5 _ u5 => q u H5 (s4.grow e5) (k3.trans (k4.trans (hid_same e5))) u5) fun p hp => s4.hidIn (by rw [hb.dom, ha.dom]; exact hp)
theorem dt_chain {op op' : CmpOp} {da db dc : PyData} {k l : Bool} (ho : OpD X X.K (compareOp op) da db (.bool k)) (ho' : OpD X X.K (compareOp op') db dc (.bool l)) (ha : DE X F g a g1 (.d da)) (hb : DE X F g1 b g2 (.d db)) (hc : k = true → DE X F g2 c g2 (.d dc))
    (hm : lastMarks [op, op'] [b, c] = false := by with_unfolding_all rfl) : DT X F g (.Compare a [op, op'] [b, c] pos) g2 (k && l) := by
  obtain ⟨rr, h1, h2⟩ := ho
  obtain ⟨rr', h1', h2'⟩ := ho'
  refine ⟨hb.dom.trans ha.dom, fun σ H Q s q => tS_of (pt_chain h1 h1' pe_s pe_s pe_s hm) ?_⟩
  refine ha.run σ H _ s fun x H1 s1 k1 x1 => hb.run σ H1 _ s1 fun y H2 s2 k2 y2 => ?_
  rw [hd_dom ha.dom, hd_dom ha.dom] at k2
  rw [hd_dom ha.dom] at y2
  refine h2 (F.S ++ g.dom) H2 x y _ (dp_mono k2 x1) y2 (fun z H3 e3 _ z3 => ?_) fun p hp => s2.hidIn (by rw [hb.dom, ha.dom]; exact hp)
  cases z3
  refine ⟨k, rfl, ?_⟩
  have k3 := k1.trans (k2.trans (hid_same (S := F.S ++ g.dom) e3))
  cases k with
  | false => exact ⟨false, rfl, q H3 (s2.grow e3) k3⟩
  | true =>
    refine (hc rfl).run σ H3 _ (s2.grow e3) fun z H4 s4 k4 z4 => ?_
    rw [hd_dom (hb.dom.trans ha.dom), hd_dom (hb.dom.trans ha.dom)] at k4
    rw [hd_dom (hb.dom.trans ha.dom)] at z4
    refine h2' (F.S ++ g.dom) H4 y z _ (dp_mono k4 (dp_mono (hid_same e3) y2)) z4 (fun u H5 e5 _ u5 => ?_) fun p hp => s4.hidIn (by rw [hb.dom, ha.dom]; exact hp)
    cases u5
    exact ⟨l, rfl, q H5 (s4.grow e5) (k3.trans (k4.trans (hid_same e5)))⟩
/-! ### arguments, displays -/
theorem da_nil : DA X F g [] g [] := ⟨rfl, fun σ H Q s q => aS_of pa_nil (q [] H s (Same.refl _) .nil)⟩
theorem da_cons (h : DE X F g e g1 r) (hr : DA X F g1 es g2 rs) (hs : starEach (e :: es) X.env = (false, eval e X.env) :: starEach es X.env := by rfl) : DA X F g (e :: es) g2 (r :: rs) := by
  refine ⟨hr.dom.trans h.dom, fun σ H Q s q => aS_of (pa_cons pe_s pa_s hs) (h.run σ H _ s fun v H1 s1 k1 x1 => hr.run σ H1 _ s1 fun vs H2 s2 k2 x2 => ?_)⟩
  rw [hd_dom h.dom, hd_dom h.dom] at k2
  rw [hd_dom h.dom] at x2
  exact q _ H2 s2 (k1.trans k2) (.cons (slOk_mono k2 x1) x2)
/-- arguments that are data -/
structure DAd (X : Cx) (F : Fm) (g : G) (es : List Expr) (g' : G) (ds : List PyData) : Prop where
  dom : g'.dom = g.dom
  run : ∀ σ H (Q : List V → Hp → Prop), Sat X.K F g σ H → (∀ vs H', Sat X.K F g' σ H' → Same (F.hd g H) (F.hd g H') → DtAll X.K (F.hd g H') vs ds → Q vs H') → aS X es σ H Q
theorem dad_nil : DAd X F g [] g [] := ⟨rfl, fun σ H Q s q => aS_of pa_nil (q [] H s (Same.refl _) .nil)⟩
theorem dad_cons {d : PyData} {ds : List PyData} (h : DE X F g e g1 (.d d)) (hr : DAd X F g1 es g2 ds) (hs : starEach (e :: es) X.env = (false, eval e X.env) :: starEach es X.env := by rfl) : DAd X F g (e :: es) g2 (d :: ds) := by
  refine ⟨hr.dom.trans h.dom, fun σ H Q s q => aS_of (pa_cons pe_s pa_s hs) (h.run σ H _ s fun v H1 s1 k1 x1 => hr.run σ H1 _ s1 fun vs H2 s2 k2 x2 => ?_)⟩
  rw [hd_dom h.dom, hd_dom h.dom] at k2
  rw [hd_dom h.dom] at x2
  exact q _ H2 s2 (k1.trans k2) (.cons (dp_mono k2 x1) x2)
theorem le_line {n : Nat} (h : n ≤ 1000) : n ≤ sizeLine := Nat.le_trans h (by decide)
theorem paired_of_dt {K : PySem.W.Frag} {H : Hp} : ∀ {vs : List V} {ds : List PyData}, DtAll K H vs ds → Paired (ItOk K H) vs (ds.map .d) := paired_of_dp
/-- a new object of ours at p -/
theorem dn_at {od : OD} {o : HO} {σ : St} {H H1 : Hp} {Q : VK} (dom : g1.dom = g.dom) (s1 : Sat X.K F g1 σ H1) (k1 : Same (F.hd g H) (F.hd g H1)) (p : Addr) (hp : H1 p = none) (ho : ODok X.K (F.hd g1 H1) o od)
    (q : ∀ p H', p ∉ F.M → p ∉ F.S ++ g.dom → F.H0 p = none → Sat X.K F ⟨g1.sl, g1.ow ++ [(p, od)]⟩ σ H' → Same (F.hd g H) (hid (p :: (F.S ++ g.dom)) H') → Q (.ref p) H') : Q (.ref p) (upd H1 p o) := by
  refine q p _ (s1.newM hp) (fun m => s1.newOut hp (by rw [dom]; exact m)) (s1.fresh0 hp) (s1.newOwn hp ho) ?_
  refine k1.trans (hid_mono (same_new hp) fun a m => ?_)
  rcases List.mem_cons.mp m with m | m
  · exact .inr (m ▸ hp)
  · exact .inl m
theorem dn_lst (h : DA X F g es g1 rs) (hz : rs.length ≤ 1000 := by exact Nat.le_of_ble_eq_true rfl) : DN X F g (.List es pos) g1 (.lst rs) :=
  ⟨h.dom, fun σ H Q s q => eS_of (pe_lst pa_s) (h.run σ H _ s fun vs H1 s1 k1 x1 => ⟨by rw [paired_length x1]; exact le_line hz, fun p hp =>
    dn_at h.dom s1 k1 p hp (by rw [hd_dom h.dom]; exact ⟨vs, rfl, x1⟩) q⟩)⟩
/-- a new list that is shared at once -/
theorem de_lst {ds : List PyData} (h : DAd X F g es g1 ds) (hz : ds.length ≤ 1000 := by exact Nat.le_of_ble_eq_true rfl) : DE X F g (.List es pos) g1 (.d (.list ds)) :=
  ⟨h.dom, fun σ H Q s q => eS_of (pe_lst pa_s) (h.run σ H _ s fun vs H1 s1 k1 x1 => ⟨by rw [dpAll_length x1]; exact le_line hz, fun p hp => by
    have hn : p ∉ F.S ++ g.dom := fun m => s1.newOut hp (by rw [h.dom]; exact m)
    exact q _ _ (s1.newShared hp) (k1.trans (hid_same (same_new hp))) (Dt.lst (hid_of hn upd_same) (dpAll_mono (hid_same (same_new hp)) x1))⟩)⟩
theorem de_tup {ds : List PyData} {j} (h : DAd X F g es g1 ds) (hz : ds.length ≤ 1000 := by exact Nat.le_of_ble_eq_true rfl) : DE X F g (.Tuple es j pos) g1 (.d (.tuple ds)) :=
  ⟨h.dom, fun σ H Q s q => eS_of (pe_tup pa_s) (h.run σ H _ s fun vs H1 s1 k1 x1 => ⟨by rw [dpAll_length x1]; exact le_line hz, fun p hp => by
    have hn : p ∉ F.S ++ g.dom := fun m => s1.newOut hp (by rw [h.dom]; exact m)
    exact q _ _ (s1.newShared hp) (k1.trans (hid_same (same_new hp))) (Dt.tup (SqT.of (hid_of hn upd_same)) (dpAll_mono (hid_same (same_new hp)) x1))⟩)⟩
/-- a new object of ours, shared: a list of data -/
theorem de_share {ds : List PyData} (h : DN X F g e g1 (.lst (ds.map .d))) : DE X F g e g1 (.d (.list ds)) := by
  refine ⟨h.dom, fun σ H Q s q => h.run σ H Q s fun p H' hM hn h0 s' k => ?_⟩
  obtain ⟨o, h1, vs, rfl, x⟩ := s'.ow (p, .lst (ds.map .d)) (by simp)
  have e1 : hid (F.S ++ G.dom ⟨g1.sl, g1.ow ++ [(p, .lst (ds.map .d))]⟩) H' = hid (F.S ++ g1.dom ++ [p]) H' := by
    rw [show G.dom ⟨g1.sl, g1.ow ++ [(p, .lst (ds.map .d))]⟩ = g1.dom ++ [p] by simp [G.dom], List.append_assoc]
  have up : Same (hid (F.S ++ G.dom ⟨g1.sl, g1.ow ++ [(p, .lst (ds.map .d))]⟩) H') (F.hd g1 H') := by
    rw [e1]; exact hid_less fun a m => List.mem_append_left _ m
  have s2 : Sat X.K F g1 σ H' :=
    ⟨paired_mono (fun _ _ z => slOk_mono up z) s'.sl, fun x hx => by
      obtain ⟨u, a1, a2⟩ := s'.ow x (List.mem_append_left _ hx)
      exact ⟨u, a1, odOk_mono up a2⟩, by rw [h.dom]; exact s.nd, s'.ex, fun a m => s'.fr a (by
        rw [show G.dom ⟨g1.sl, g1.ow ++ [(p, .lst (ds.map .d))]⟩ = g1.dom ++ [p] by simp [G.dom]]
        exact List.mem_append_left _ m), s'.sH, s'.mH⟩
  refine q _ H' s2 (k.trans (hid_less fun a m => List.mem_cons_of_mem _ m)) (Dt.lst (hid_of hn h1) ?_)
  have := dp_of_paired (paired_mono (fun _ _ z => slOk_mono up z) x)
  rw [hd_dom h.dom] at this
  exact this
/-! ### promises of defs, calls -/
/-- data in, data out; nothing else changes -/
def spP (K : PySem.W.Frag) (R : List PyData → PyData → Prop) : Sp := fun vs H Q _ => ∃ (S : List Addr) (ds : List PyData) (d : PyData), (∀ a ∈ S, H a ≠ none) ∧ DtAll K (hid S H) vs ds ∧ R ds d ∧ ∀ v H', Same H H' → Dt K (hid S H') v d → Q v H'
/-- data in, a new list of data out -/
def spN (K : PySem.W.Frag) (R : List PyData → List PyData → Prop) : Sp := fun vs H Q _ => ∃ (S : List Addr) (ds es : List PyData), (∀ a ∈ S, H a ≠ none) ∧ DtAll K (hid S H) vs ds ∧ R ds es ∧
  ∀ p ws H', H p = none → Same H H' → H' p = some (.lst ws) → DtAll K (hid (p :: S) H') ws es → Q (.ref p) H'
/-- a list of ints is drawn from (changed), data in, data out -/
def spM (K : PySem.W.Frag) (R : List Int → List PyData → List Int → PyData → Prop) : Sp := fun vs H Q _ => ∃ (S : List Addr) (a : Addr) (l l' : List Int) (ws : List V) (ds : List PyData) (d : PyData), vs = .ref a :: ws ∧ H a = some (.lst (l.map V.int)) ∧ a ∉ S ∧ (∀ b ∈ S, H b ≠ none) ∧
  DtAll K (hid (a :: S) H) ws ds ∧ R l ds l' d ∧ ∀ v H', (∀ b o, b ≠ a → H b = some o → H' b = some o) → H' a = some (.lst (l'.map V.int)) → Dt K (hid (a :: S) H') v d → Q v H'
/-- a def that keeps a promise and raises nothing, by its name -/
structure Cal (P : Program) (w : World) (K : PySem.W.Frag) (mg : Str → Option Value) (base : Heap) (k : Nat) (x : Str) (sp : Sp) : Prop where
  ex : ∃ f fd ps, FnOk P w K mg base CX0 k f fd ps sp ∧ mg x = some (.ref f) ∧ PySem.W.keepIn K (.ref f) = true ∧ Binds K fd ps []
abbrev CalX (X : Cx) (k : Nat) (x : Str) (sp : Sp) : Prop := Cal X.prog X.w X.K X.mg X.base k x sp
theorem eS_call {x : Str} {sp : Sp} {j k : Nat} {p : Pos} (C : CalX X j x sp) (hr : Room k X.A) (hk : j ≤ k) (hg : Gl X x) (hdb : (x == ("__debug__" : Str)) = false) (he : starEach (e :: es) X.env = (false, eval e X.env) :: starEach es X.env)
    (hpl : (backTo pos (starEach es X.env)).any (·.1) = false) {σ : St} {H : Hp} {Q : VK} (h : aS X (e :: es) σ H fun vs H1 => sp vs H1 Q E0) : eS X (.Call (.Name x p) (e :: es) [] pos) σ H Q := by
  obtain ⟨f, fd, ps, G, hm, kp, b⟩ := C.ex
  refine eS_of (pe_call G (hr.mono hk) hg hm kp b .nil pass0 pa_s hdb he hpl) ?_
  intro ps pins s I
  exact thn (h ps pins s I) fun us s1 ⟨vs, H1, I1, r1, q⟩ => ⟨vs, H1, I1, r1, by show sp (vs ++ []) H1 Q E0; rw [List.append_nil]; exact q⟩
theorem de_call {x : Str} {R : List PyData → PyData → Prop} {ds : List PyData} {d : PyData} {j k : Nat} {p : Pos} (C : CalX X j x (spP X.K R)) (hr : Room k X.A) (ha : DAd X F g (e :: es) g1 ds) (hR : R ds d) (hk : j ≤ k := by decide) (hg : Gl X x := by rfl)
    (hdb : (x == ("__debug__" : Str)) = false := by decide) (he : starEach (e :: es) X.env = (false, eval e X.env) :: starEach es X.env := by rfl) (hpl : (backTo pos (starEach es X.env)).any (·.1) = false := by rfl) : DE X F g (.Call (.Name x p) (e :: es) [] pos) g1 (.d d) :=
  ⟨ha.dom, fun σ H Q s q => eS_call C hr hk hg hdb he hpl (ha.run σ H _ s fun vs H1 s1 k1 x1 => ⟨F.S ++ g.dom, ds, d, fun a m => s1.hidIn (by rw [ha.dom]; exact m), x1, hR, fun v H' e' x' => q v H' (s1.grow e') (k1.trans (hid_same e')) x'⟩)⟩
theorem dn_call {x : Str} {R : List PyData → List PyData → Prop} {ds ys : List PyData} {j k : Nat} {p : Pos} (C : CalX X j x (spN X.K R)) (hr : Room k X.A) (ha : DAd X F g (e :: es) g1 ds) (hR : R ds ys) (hk : j ≤ k := by decide) (hg : Gl X x := by rfl)
    (hdb : (x == ("__debug__" : Str)) = false := by decide) (he : starEach (e :: es) X.env = (false, eval e X.env) :: starEach es X.env := by rfl) (hpl : (backTo pos (starEach es X.env)).any (·.1) = false := by rfl) : DN X F g (.Call (.Name x p) (e :: es) [] pos) g1 (.lst (ys.map .d)) :=
  ⟨ha.dom, fun σ H Q s q => eS_call C hr hk hg hdb he hpl (ha.run σ H _ s fun vs H1 s1 k1 x1 => ⟨F.S ++ g.dom, ds, ys, fun a m => s1.hidIn (by rw [ha.dom]; exact m), x1, hR, fun p ws H' hp e' hws x' => by
    have hn : p ∉ F.S ++ g.dom := fun m => s1.newOut hp (by rw [ha.dom]; exact m)
    have sh : Same (F.hd g H1) (hid (p :: (F.S ++ g.dom)) H') := hid_mono e' fun a m => by
      rcases List.mem_cons.mp m with m | m
      · exact .inr (m ▸ hp)
      · exact .inl m
    have e2 : F.hd ⟨g1.sl, g1.ow ++ [(p, OD.lst (ys.map .d))]⟩ H' = hid (p :: (F.S ++ g.dom)) H' := by
      funext b
      show hid (F.S ++ G.dom ⟨g1.sl, g1.ow ++ [(p, OD.lst (ys.map .d))]⟩) H' b = _
      unfold hid
      rw [show G.dom ⟨g1.sl, g1.ow ++ [(p, OD.lst (ys.map .d))]⟩ = g.dom ++ [p] by simp [G.dom]; exact ha.dom]
      by_cases hb : b ∈ p :: (F.S ++ g.dom)
      · rw [if_pos hb, if_pos (by simp at hb ⊢; rcases hb with h | h | h <;> simp [h])]
      · rw [if_neg hb, if_neg (by simp at hb ⊢; exact ⟨hb.2.1, hb.2.2, hb.1⟩)]
    refine q p H' (s1.newM hp) hn (s1.fresh0 hp) ?_ (k1.trans sh)
    have dm : G.dom ⟨g1.sl, g1.ow ++ [(p, OD.lst (ys.map .d))]⟩ = g1.dom ++ [p] := by simp [G.dom]
    refine ⟨?_, fun y hy => ?_, ?_, fun b o q' m => e' b o (s1.ex b o q' m), fun a m => ?_, s1.sH, fun a m => ?_⟩
    · rw [e2]; exact paired_mono (fun _ _ z => slOk_mono (by rw [hd_dom ha.dom]; exact sh) z) s1.sl
    · rw [e2]
      rcases List.mem_append.mp hy with hy | hy
      · obtain ⟨u, a1, a2⟩ := s1.ow y hy
        exact ⟨u, e' _ _ a1, odOk_mono (by rw [hd_dom ha.dom]; exact sh) a2⟩
      · rw [List.mem_singleton] at hy
        subst hy
        exact ⟨_, hws, ws, rfl, paired_of_dp x'⟩
    · rw [dm, ha.dom]
      exact List.nodup_append.mpr ⟨s.nd, by simp, fun a ha' b hb e => hn (List.mem_append_right _ (by rw [List.mem_singleton] at hb; rw [← hb, ← e]; exact ha'))⟩
    · rw [dm] at m
      rcases List.mem_append.mp m with m | m
      · exact s1.fr a m
      · rw [List.mem_singleton] at m; exact .inl (m ▸ s1.fresh0 hp)
    · cases z : H1 a with
      | none => exact absurd z (s1.mH a m)
      | some o => rw [e' a o z]; simp⟩)⟩
end DL
end L2
set_option Elab.async false
set_option linter.all false
set_option maxRecDepth 100000
set_option maxHeartbeats 4000000
namespace L2
namespace DL
open PySem PySem.Spec PyProof.Rows
/-! ### an owned object changes -/
theorem dom_set {g : G} {j : Nat} {a : Addr} {od od' : OD} (h : g.ow[j]? = some (a, od)) : G.dom ⟨g.sl, g.ow.set j (a, od')⟩ = g.dom := by
  show (g.ow.set j (a, od')).map (·.1) = g.ow.map (·.1)
  rw [List.map_set]
  refine List.ext_getElem? fun k => ?_
  by_cases e : j = k
  · subst e
    have hj : j < g.ow.length := (List.getElem?_eq_some_iff.mp h).1
    rw [List.getElem?_set_self (by simpa using hj), List.getElem?_map, h]
    rfl
  · rw [List.getElem?_set_ne e]
theorem mem_dom {g : G} {j : Nat} {a : Addr} {od : OD} (h : g.ow[j]? = some (a, od)) : a ∈ g.dom := List.mem_map.mpr ⟨_, List.mem_of_getElem? h, rfl⟩
theorem Sat.put {K : PySem.W.Frag} {F : Fm} {g : G} {σ : St} {H H' : Hp} {j : Nat} {a : Addr} {od od' : OD} {o' : HO} (s : Sat K F g σ H) (hj : g.ow[j]? = some (a, od)) (k : ∀ b o, b ≠ a → H b = some o → H' b = some o) (h : H' a = some o') (q : ODok K (F.hd g H') o' od') :
    Sat K F ⟨g.sl, g.ow.set j (a, od')⟩ σ H' ∧ Same (F.hd g H) (F.hd g H') := by
  have ha := mem_dom hj
  have sh : Same (F.hd g H) (F.hd g H') := fun b o e => by
    obtain ⟨m, e⟩ := hid_some e
    exact hid_of m (k b o (fun z => m (by rw [z]; exact List.mem_append_right _ ha)) e)
  have hdd : F.hd ⟨g.sl, g.ow.set j (a, od')⟩ H' = F.hd g H' := hd_dom (dom_set hj) H'
  refine ⟨⟨?_, fun p hp => ?_, by rw [dom_set hj]; exact s.nd, fun b o e m => k b o (fun z => ?_) (s.ex b o e m), fun b m => s.fr b (by rw [dom_set hj] at m; exact m), s.sH, fun b m => ?_⟩, sh⟩
  · rw [hdd]; exact paired_mono (fun _ _ z => slOk_mono sh z) s.sl
  · rw [hdd]
    obtain ⟨i, hi⟩ := List.mem_iff_getElem?.mp hp
    by_cases e : j = i
    · subst e
      have hl : j < g.ow.length := (List.getElem?_eq_some_iff.mp hj).1
      rw [List.getElem?_set_self hl] at hi
      cases hi
      exact ⟨o', h, q⟩
    · rw [List.getElem?_set_ne e] at hi
      obtain ⟨u, a1, a2⟩ := s.ow p (List.mem_of_getElem? hi)
      refine ⟨u, k _ _ (fun z => e ?_) a1, odOk_mono sh a2⟩
      exact nd_ix s.nd (by show g.dom[j]? = some a; rw [List.getElem?_map, hj]; rfl) (by show g.dom[i]? = some a; rw [List.getElem?_map, hi, ← z]; rfl)
  · rcases s.fr a ha with q | q
    · rw [z, q] at e; cases e
    · exact m (z ▸ q)
  · by_cases e : b = a
    · rw [e, h]; simp
    · cases z : H b with
      | none => exact absurd z (s.mH b m)
      | some o => rw [k b o e z]; simp
/-- what an owned object holds -/
theorem Sat.own {K : PySem.W.Frag} {F : Fm} {g : G} {σ : St} {H : Hp} {j : Nat} {a : Addr} {od : OD} (s : Sat K F g σ H) (hj : g.ow[j]? = some (a, od)) : ∃ o, H a = some o ∧ ODok K (F.hd g H) o od := s.ow (a, od) (List.mem_of_getElem? hj)
variable {X : Cx} {F : Fm} {g g1 g2 g3 : G} {e a b c : Expr} {es : List Expr} {r s t : Sl} {rs : List Sl} {pos : Pos}
/-- a list of intsO of ours -/
abbrev intsO (l : List Int) : OD := .lst ((l.map PyData.int).map Sl.d)
theorem ints_is {K : PySem.W.Frag} {Hd : Hp} {o : HO} {l : List Int} (h : ODok K Hd o (intsO l)) : o = .lst (l.map V.int) := by
  obtain ⟨vs, rfl, r⟩ := h
  congr 1
  exact dpAll_ints (dp_of_paired r)
theorem ints_of {K : PySem.W.Frag} {Hd : Hp} (l : List Int) : ODok K Hd (.lst (l.map V.int)) (intsO l) := ⟨_, rfl, paired_of_dp (dpAll_of_ints (K := K) (H := Hd) l)⟩
/-- a call that draws: its first argument a list of intsO of ours -/
theorem de_callM {x : Str} {R : List Int → List PyData → List Int → PyData → Prop} {ds : List PyData} {d : PyData} {l l' : List Int} {p0 : Addr} {i j : Nat} {jl k : Nat} {p : Pos} {y : Str} {py : Pos} (C : CalX X jl x (spM X.K R)) (hr : Room k X.A)
    (hs : g.sl[i]? = some (.v (.ref p0)) := by rfl) (ho : g1.ow[j]? = some (p0, intsO l) := by rfl) (ha : DAd X F g es g1 ds) (hR : R l ds l' d) (hk : jl ≤ k := by decide) (hg : Gl X x := by rfl) (hN : X.N[i]? = some y := by rfl)
    (hv : Vis X.env.scope y := by first | exact Or.inl rfl | exact Or.inr (Or.inl rfl) | exact Or.inr (Or.inr rfl)) (hd : (y == ("__debug__" : Str)) = false := by decide) (hcd : (y == ("__classdict__" : Str)) = false := by decide)
    (hdb : (x == ("__debug__" : Str)) = false := by decide) (he : starEach (.Name y py :: es) X.env = (false, eval (.Name y py) X.env) :: starEach es X.env := by rfl) (hpl : (backTo pos (starEach es X.env)).any (·.1) = false := by rfl) :
    DE X F g (.Call (.Name x p) (.Name y py :: es) [] pos) ⟨g1.sl, g1.ow.set j (p0, intsO l')⟩ (.d d) := by
  refine ⟨(dom_set ho).trans ha.dom, fun σ H Q s q => eS_call C hr hk hg hdb he hpl (aS_of (pa_cons (pe_var (i := i) hN hv hd hcd) pa_s he) ?_)⟩
  obtain ⟨o, h1, h2⟩ := sat_slot s hs
  have eo : o = some (V.ref p0) := h2
  subst eo
  refine ⟨_, h1, ha.run σ H _ s fun vs H1 s1 k1 x1 => ?_⟩
  obtain ⟨o, o1, o2⟩ := s1.own ho
  have eo : o = .lst (l.map V.int) := ints_is o2
  subst eo
  have pd : p0 ∈ g1.dom := mem_dom ho
  have pS : p0 ∉ F.S ++ (g.dom.filter (· ≠ p0)) := fun m => by
    rcases List.mem_append.mp m with m | m
    · rcases s1.fr p0 pd with z | z
      · exact (s1.sH p0 m).1 z
      · exact (s1.sH p0 m).2 z
    · simp at m
  have eS : hid (p0 :: (F.S ++ (g.dom.filter (· ≠ p0)))) H1 = F.hd g H1 := by
    funext z
    show (if z ∈ p0 :: (F.S ++ (g.dom.filter (· ≠ p0))) then none else H1 z) = if z ∈ F.S ++ g.dom then none else H1 z
    have iff : z ∈ p0 :: (F.S ++ (g.dom.filter (· ≠ p0))) ↔ z ∈ F.S ++ g.dom := by
      rw [ha.dom] at pd
      simp only [List.mem_cons, List.mem_append, List.mem_filter, ne_eq, decide_not, Bool.not_eq_eq_eq_not, Bool.not_true, decide_eq_false_iff_not]
      constructor
      · rintro (h | h | h)
        · exact .inr (h ▸ pd)
        · exact .inl h
        · exact .inr h.1
      · rintro (h | h)
        · exact .inr (.inl h)
        · by_cases e : z = p0
          · exact .inl e
          · exact .inr (.inr ⟨h, e⟩)
    by_cases m : z ∈ F.S ++ g.dom
    · rw [if_pos (iff.mpr m), if_pos m]
    · rw [if_neg (fun q => m (iff.mp q)), if_neg m]
  refine ⟨F.S ++ (g.dom.filter (· ≠ p0)), p0, l, l', vs, ds, d, rfl, o1, pS, fun z m => s1.hidIn (by
    rw [ha.dom]
    rcases List.mem_append.mp m with m | m
    · exact List.mem_append_left _ m
    · exact List.mem_append_right _ (List.mem_filter.mp m).1), by rw [eS]; exact x1, hR, fun v H' k' h' x' => ?_⟩
  obtain ⟨s2, sh⟩ := s1.put ho k' h' (od' := intsO l') (ints_of _)
  rw [hd_dom ha.dom, hd_dom ha.dom] at sh
  refine q v H' s2 (k1.trans sh) ?_
  refine dp_mono (fun z u e => ?_) x'
  obtain ⟨m, e⟩ := hid_some e
  refine hid_of (fun q => m ?_) e
  rcases List.mem_append.mp q with q | q
  · exact List.mem_cons_of_mem _ (List.mem_append_left _ q)
  · by_cases e : z = p0
    · rw [e]; exact List.mem_cons_self
    · exact List.mem_cons_of_mem _ (List.mem_append_right _ (List.mem_filter.mpr ⟨q, by simpa using e⟩))
theorem de_un_neg {i : Int} (h : DE X F g a g1 (.d (.int i))) : DE X F g (.UnaryOp .USub a pos) g1 (.d (.int (-i))) :=
  ⟨h.dom, fun σ H Q s q => eS_of (pe_un un_neg pe_s) (h.run σ H _ s fun v H' s' k x => by cases x; exact ⟨i, rfl, q _ H' s' k (Dt.int _)⟩)⟩
/-! ### subscripts -/
theorem dtAll_atI {K : PySem.W.Frag} {H : Hp} {vs : List V} {ds : List PyData} {i : Int} {d : PyData} (h : DtAll K H vs ds) (e : atI ds i = some d) : ∃ v, atI vs i = some v ∧ Dt K H v d := by
  unfold atI at e ⊢
  rw [dpAll_length h]
  cases q : ixN ds.length i with
  | none => rw [q] at e; cases e
  | some j =>
    rw [q] at e
    obtain ⟨v, h1, h2⟩ := dpAll_get h (show ds[j]? = some d from e)
    exact ⟨v, h1, h2⟩
theorem plainIx_of {b : Expr} (h : ∀ o i, subscripted b false o i = operate [o, i] (getItem o i)) : PlainIx b := h
theorem de_ixr {da db dc : PyData} {rr : R2} (hr : IxR X rr) (ha : DE X F g a g1 (.d da)) (hb : DE X F g1 b g2 (.d db)) (hs : PlainIx b)
    (h : ∀ S H x y (Q : VK), Dt X.K (hid S H) x da → Dt X.K (hid S H) y db → (∀ z H', Same H H' → (∀ p ∈ S, H p ≠ none) → Dt X.K (hid S H') z dc → Q z H') → (∀ p ∈ S, H p ≠ none) → rr x y H Q) : DE X F g (.Subscript a b pos) g2 (.d dc) :=
  de_two (pe_ix hr pe_s pe_s hs) (fun _ _ _ => rfl) ha hb h
theorem unhid {S : List Addr} {H : Hp} : Same (hid S H) H := fun b o q => (hid_some q).2
/-- xs[i] of a shared list -/
theorem de_ixL {ds : List PyData} {i : Int} {d : PyData} (ha : DE X F g a g1 (.d (.list ds))) (hb : DE X F g1 b g2 (.d (.int i))) (h : atI ds i = some d) (hs : PlainIx b := by exact fun _ _ => rfl) : DE X F g (.Subscript a b pos) g2 (.d d) :=
  de_ixr ix_list ha hb hs fun S H x y Q hx hy k m => by
    cases hx with
    | lst h1 h2 =>
      cases hy
      obtain ⟨v, e1, e2⟩ := dtAll_atI h2 h
      exact ⟨_, _, i, v, rfl, rfl, SqL.of (unhid _ _ h1), e1, k v H (Same.refl H) m e2⟩
theorem de_ixT {ds : List PyData} {i : Int} {d : PyData} (ha : DE X F g a g1 (.d (.tuple ds))) (hb : DE X F g1 b g2 (.d (.int i))) (h : atI ds i = some d) (hs : PlainIx b := by exact fun _ _ => rfl) : DE X F g (.Subscript a b pos) g2 (.d d) :=
  de_ixr ix_tup ha hb hs fun S H x y Q hx hy k m => by
    cases hx with
    | tup h1 h2 =>
      cases hy
      obtain ⟨v, e1, e2⟩ := dtAll_atI h2 h
      exact ⟨_, _, i, v, rfl, rfl, same_t unhid h1, e1, k v H (Same.refl H) m e2⟩
theorem de_ixS {z : Str} {i : Int} {u : Nat} (ha : DE X F g a g1 (.d (.str z))) (hb : DE X F g1 b g2 (.d (.int i))) (hz : z.length ≤ sizeLine) (h : atI z.cps.toList i = some u) (hs : PlainIx b := by exact fun _ _ => rfl) : DE X F g (.Subscript a b pos) g2 (.d (.str ⟨#[u]⟩)) :=
  de_ixr ix_str ha hb hs fun S H x y Q hx hy k m => by
    cases hx
    cases hy
    exact ⟨z, i, u, rfl, rfl, hz, h, k _ H (Same.refl H) m (Dt.str _)⟩
/-- xs[i] of a list of ours -/
theorem de_ixO {p0 : Addr} {xs : List Sl} {i : Int} {j n : Nat} (ha : DE X F g a g1 (.v (.ref p0))) (hb : DE X F g1 b g2 (.d (.int i))) (ho : g2.ow[j]? = some (p0, .lst xs)) (hi : ixN xs.length i = some n) (h : xs[n]? = some r) (hr : r ≠ .u)
    (hs : PlainIx b := by exact fun _ _ => rfl) : DE X F g (.Subscript a b pos) g2 r := by
  refine ⟨hb.dom.trans ha.dom, fun σ H Q s q => eS_of (pe_ix ix_list pe_s pe_s hs) ?_⟩
  refine ha.run σ H _ s fun x H1 s1 k1 x1 => hb.run σ H1 _ s1 fun y H2 s2 k2 y2 => ?_
  rw [hd_dom ha.dom, hd_dom ha.dom] at k2
  have ex : some x = some (V.ref p0) := x1
  cases ex
  cases y2
  obtain ⟨o, o1, vs, rfl, o2⟩ := s2.own ho
  obtain ⟨v, v1, v2⟩ := paired_get o2 h
  refine ⟨_, _, i, v, rfl, rfl, SqL.of o1, ?_, q v H2 s2 (k1.trans k2) ?_⟩
  · unfold atI; rw [paired_length o2, hi]; exact v1
  · rw [← hd_dom (F := F) (hb.dom.trans ha.dom)]; exact v2
/-- .. of a list of intsO of ours -/
theorem de_ixI {p0 : Addr} {l : List Int} {i v : Int} {j : Nat} (ha : DE X F g a g1 (.v (.ref p0))) (hb : DE X F g1 b g2 (.d (.int i))) (ho : g2.ow[j]? = some (p0, intsO l)) (h : atI l i = some v)
    (hs : PlainIx b := by exact fun _ _ => rfl) : DE X F g (.Subscript a b pos) g2 (.d (.int v)) := by
  refine ⟨hb.dom.trans ha.dom, fun σ H Q s q => eS_of (pe_ix ix_list pe_s pe_s hs) ?_⟩
  refine ha.run σ H _ s fun x H1 s1 k1 x1 => hb.run σ H1 _ s1 fun y H2 s2 k2 y2 => ?_
  rw [hd_dom ha.dom, hd_dom ha.dom] at k2
  have ex : some x = some (V.ref p0) := x1
  cases ex
  cases y2
  obtain ⟨o, o1, o2⟩ := s2.own ho
  have eo : o = .lst (l.map V.int) := ints_is o2
  subst eo
  refine ⟨_, _, i, .int v, rfl, rfl, SqL.of o1, ?_, q _ H2 s2 (k1.trans k2) (Dt.int v)⟩
  unfold atI at h ⊢
  rw [List.length_map]
  cases z : ixN l.length i with
  | none => rw [z] at h; cases h
  | some n =>
    rw [z] at h
    show (l.map V.int)[n]? = some (V.int v)
    rw [List.getElem?_map, show l[n]? = some v from h]
    rfl
/-! ### slices -/
def oS (X : Cx) (e : Option Expr) : TO := fun σ H Q => ∀ pins s, Inv X pins σ H s → wpAny (model X.prog X.w) X.A (evalPart e X.env) (fun u s' => ∃ o H', Inv X pins σ H' s' ∧ IsPart u o ∧ Q o H') X.xe s
theorem po_s {e : Option Expr} : PO X e (oS X e) := ⟨fun pins s _ _ _ I h => h pins s I⟩
theorem oS_of {e : Option Expr} {t : TO} (h : PO X e t) {σ : St} {H : Hp} {Q : Option Int → Hp → Prop} (q : t σ H Q) : oS X e σ H Q := fun pins s I => h.run pins s σ H Q I q
structure DP (X : Cx) (F : Fm) (g : G) (e : Option Expr) (g' : G) (v : Option Int) : Prop where
  dom : g'.dom = g.dom
  run : ∀ σ H (Q : Option Int → Hp → Prop), Sat X.K F g σ H → (∀ H', Sat X.K F g' σ H' → Same (F.hd g H) (F.hd g H') → Q v H') → oS X e σ H Q
theorem dp_none : DP X F g none g none := ⟨rfl, fun σ H Q s q => oS_of po_none (q H s (Same.refl _))⟩
theorem dp_some {i : Int} (h : DE X F g e g1 (.d (.int i))) : DP X F g (some e) g1 (some i) := ⟨h.dom, fun σ H Q s q => oS_of (po_some pe_s) (h.run σ H _ s fun v H' s' k x => by cases x; exact ⟨i, rfl, q H' s' k⟩)⟩
/-- the items of xs[lo:hi] -/
def cutL {α : Type} (xs : List α) (lo hi : Option Int) : List α := (xs.drop (HT.sIx xs.length 0 lo)).take (HT.sIx xs.length xs.length hi - HT.sIx xs.length 0 lo)
theorem cutV_eq (xs : List V) (lo hi : Option Int) : cutV xs lo hi = cutL xs lo hi := rfl
theorem dtAll_cut {K : PySem.W.Frag} {H : Hp} {vs : List V} {ds : List PyData} (h : DtAll K H vs ds) (lo hi : Option Int) : DtAll K H (cutV vs lo hi) (cutL ds lo hi) := by
  unfold cutV cutL
  rw [dpAll_length h]
  exact dpAll_take _ (dpAll_drop _ h)
variable {lo hi : Option Expr} {l u : Option Int} {p2 : Pos}
theorem de_sl {da dc : PyData} {rr : V → Option Int → Option Int → Hp → VK → Prop} (hr : SlR X rr) (ha : DE X F g a g1 (.d da)) (hl : DP X F g1 lo g2 l) (hu : DP X F g2 hi g3 u)
    (h : ∀ S H x (Q : VK), Dt X.K (hid S H) x da → (∀ z H', Same H H' → (∀ p ∈ S, H p ≠ none) → Dt X.K (hid S H') z dc → Q z H') → (∀ p ∈ S, H p ≠ none) → rr x l u H Q) : DE X F g (.Subscript a (.Slice lo hi none p2) pos) g3 (.d dc) := by
  refine ⟨hu.dom.trans (hl.dom.trans ha.dom), fun σ H Q s q => eS_of (pe_slice hr pe_s po_s po_s) ?_⟩
  refine ha.run σ H _ s fun x H1 s1 k1 x1 => hl.run σ H1 _ s1 fun H2 s2 k2 => hu.run σ H2 _ s2 fun H3 s3 k3 => ?_
  rw [hd_dom ha.dom, hd_dom ha.dom] at k2
  rw [hd_dom (hl.dom.trans ha.dom), hd_dom (hl.dom.trans ha.dom)] at k3
  exact h (F.S ++ g.dom) H3 x Q (dp_mono (k2.trans k3) x1) (fun z H4 e4 _ z4 => q z H4 (s3.grow e4) (k1.trans (k2.trans (k3.trans (hid_same e4)))) z4) fun p hp => s3.hidIn (by rw [hu.dom, hl.dom, ha.dom]; exact hp)
/-- xs[lo:hi] of a list: a new list of ours -/
theorem dn_slL {ds : List PyData} (ha : DE X F g a g1 (.d (.list ds))) (hl : DP X F g1 lo g2 l) (hu : DP X F g2 hi g3 u) : DN X F g (.Subscript a (.Slice lo hi none p2) pos) g3 (.lst ((cutL ds l u).map .d)) := by
  have dm := hu.dom.trans (hl.dom.trans ha.dom)
  refine ⟨dm, fun σ H Q s q => eS_of (pe_slice sl_list pe_s po_s po_s) ?_⟩
  refine ha.run σ H _ s fun x H1 s1 k1 x1 => hl.run σ H1 _ s1 fun H2 s2 k2 => hu.run σ H2 _ s2 fun H3 s3 k3 => ?_
  rw [hd_dom ha.dom, hd_dom ha.dom] at k2
  rw [hd_dom (hl.dom.trans ha.dom), hd_dom (hl.dom.trans ha.dom)] at k3
  cases x1 with
  | lst h1 h2 =>
    have h3 := (k2.trans k3) _ _ h1
    have h4 := dpAll_mono (k2.trans k3) h2
    exact ⟨_, _, rfl, SqL.of (unhid _ _ h3), fun p hp => dn_at dm s3 (k1.trans (k2.trans k3)) p hp (by rw [hd_dom dm]; exact ⟨_, rfl, paired_of_dp (dtAll_cut h4 l u)⟩) q⟩
theorem de_slT {ds : List PyData} (ha : DE X F g a g1 (.d (.tuple ds))) (hl : DP X F g1 lo g2 l) (hu : DP X F g2 hi g3 u) : DE X F g (.Subscript a (.Slice lo hi none p2) pos) g3 (.d (.tuple (cutL ds l u))) :=
  de_sl sl_tupA ha hl hu fun S H x Q hx k m => by
    cases hx with
    | @tup a xs _ h1 h2 =>
      refine ⟨_, _, rfl, same_t unhid h1, fun hw => k _ H (Same.refl H) m ?_, fun hw p hp => k _ _ (same_new hp) m ?_⟩
      · have e : cutL ds l u = ds := by
          unfold cutL
          rw [dpAll_length h2] at hw
          rw [hw.1, hw.2]
          simp
        rw [e]
        exact .tup h1 h2
      · have hn : p ∉ S := fun z => m p z hp
        exact .tup (SqT.of (hid_of hn upd_same)) (dpAll_mono (hid_same (same_new hp)) (dtAll_cut h2 l u))
theorem de_slS {z : Str} (ha : DE X F g a g1 (.d (.str z))) (hl : DP X F g1 lo g2 l) (hu : DP X F g2 hi g3 u) (hz : z.length ≤ sizeLine) : DE X F g (.Subscript a (.Slice lo hi none p2) pos) g3 (.d (.str (cutS z l u))) :=
  de_sl sl_str ha hl hu fun S H x Q hx k m => by
    cases hx
    exact ⟨z, rfl, hz, k _ H (Same.refl H) m (Dt.str _)⟩
/-- xs[::-1] -/
theorem dn_revL {ds : List PyData} {k : Nat} {q1 q2 q3 : Pos} (ha : DE X F g a g1 (.d (.list ds))) : DN X F g (.Subscript a (.Slice none none (some (.UnaryOp .USub (.Constant (.int 1) k q1) q2)) q3) pos) g1 (.lst (ds.reverse.map .d)) := by
  refine ⟨ha.dom, fun σ H Q s q => eS_of (pe_revL pe_s) (ha.run σ H _ s fun x H1 s1 k1 x1 => ?_)⟩
  cases x1 with
  | lst h1 h2 => exact ⟨_, _, rfl, SqL.of (unhid _ _ h1), fun p hp => dn_at ha.dom s1 k1 p hp (by rw [hd_dom ha.dom]; exact ⟨_, rfl, paired_of_dp (dpAll_reverse h2)⟩) q⟩
/-! ### built-ins -/
/-- a call of a built-in on data -/
def CallD (X : Cx) (f : Value) (ds : List PyData) (c : PyData) : Prop := ∃ r, CallR X f r ∧ ∀ S H xs (Q : VK), DtAll X.K (hid S H) xs ds → (∀ z H', Same H H' → (∀ p ∈ S, H p ≠ none) → Dt X.K (hid S H') z c → Q z H') → (∀ p ∈ S, H p ≠ none) → r xs H Q
theorem de_callB {id : String} {x : Str} {p : Pos} {ds : List PyData} {d : PyData} (hc : CallD X (.builtin id) ds d) (hm : X.mg x = none) (ha : DAd X F g (e :: es) g1 ds) (hg : Gl X x := by rfl) (hv : bootBuiltins x = some (.builtin id) := by decide +kernel) (hn : x ≠ "__name__" := by decide)
    (hdb : (x == ("__debug__" : Str)) = false := by decide) (he : starEach (e :: es) X.env = (false, eval e X.env) :: starEach es X.env := by rfl) (hpl : (backTo pos (starEach es X.env)).any (·.1) = false := by rfl) : DE X F g (.Call (.Name x p) (e :: es) [] pos) g1 (.d d) := by
  obtain ⟨rr, h1, h2⟩ := hc
  refine ⟨ha.dom, fun σ H Q s q => eS_of (pe_callB h1 hg hm hv pa_s hn hdb he hpl) (ha.run σ H _ s fun vs H1 s1 k1 x1 => ?_)⟩
  exact h2 (F.S ++ g.dom) H1 vs Q x1 (fun z H' e' _ z' => q z H' (s1.grow e') (k1.trans (hid_same e')) z') fun p hp => s1.hidIn (by rw [ha.dom]; exact hp)
theorem de_callTy {T : String} {x : Str} {p : Pos} {ds : List PyData} {d : PyData} (hc : CallD X (.type T) ds d) (hm : X.mg x = none) (ha : DAd X F g (e :: es) g1 ds) (hg : Gl X x := by rfl) (hv : bootBuiltins x = some (.type T) := by decide +kernel) (hn : x ≠ "__name__" := by decide)
    (hdb : (x == ("__debug__" : Str)) = false := by decide) (he : starEach (e :: es) X.env = (false, eval e X.env) :: starEach es X.env := by rfl) (hpl : (backTo pos (starEach es X.env)).any (·.1) = false := by rfl) : DE X F g (.Call (.Name x p) (e :: es) [] pos) g1 (.d d) := by
  obtain ⟨rr, h1, h2⟩ := hc
  refine ⟨ha.dom, fun σ H Q s q => eS_of (pe_callTy h1 hg hm hv pa_s hn hdb he hpl) (ha.run σ H _ s fun vs H1 s1 k1 x1 => ?_)⟩
  exact h2 (F.S ++ g.dom) H1 vs Q x1 (fun z H' e' _ z' => q z H' (s1.grow e') (k1.trans (hid_same e')) z') fun p hp => s1.hidIn (by rw [ha.dom]; exact hp)
theorem cd_lenL {ds : List PyData} : CallD X (.builtin "len") [.list ds] (.int ds.length) := ⟨_, call_len, fun S H xs Q hx k m => by
  cases hx with | cons h1 h2 => cases h2; cases h1 with | lst a1 a2 => exact ⟨_, ds.length, rfl, .inl ⟨_, SqL.of (unhid _ _ a1), (dpAll_length a2).symm⟩, k _ H (Same.refl H) m (Dt.int _)⟩⟩
theorem cd_lenT {ds : List PyData} : CallD X (.builtin "len") [.tuple ds] (.int ds.length) := ⟨_, call_len, fun S H xs Q hx k m => by
  cases hx with | cons h1 h2 => cases h2; cases h1 with | tup a1 a2 => exact ⟨_, ds.length, rfl, .inr ⟨_, same_t unhid a1, (dpAll_length a2).symm⟩, k _ H (Same.refl H) m (Dt.int _)⟩⟩
theorem cd_lenS {z : Str} (hz : z.length ≤ sizeLine) : CallD X (.builtin "len") [.str z] (.int z.length) := ⟨_, call_len, fun S H xs Q hx k m => by
  cases hx with | cons h1 h2 => cases h2; cases h1; exact ⟨_, z.length, rfl, ⟨hz, rfl⟩, k _ H (Same.refl H) m (Dt.int _)⟩⟩
theorem cd_abs {i : Int} : CallD X (.builtin "abs") [.int i] (.int (if i < 0 then -i else i)) := ⟨_, call_abs, fun S H xs Q hx k m => by
  cases hx with | cons h1 h2 => cases h2; cases h1; exact ⟨i, rfl, k _ H (Same.refl H) m (Dt.int _)⟩⟩
theorem cd_min2 {i j : Int} (hc : X.calm = true := by rfl) : CallD X (.builtin "min") [.int i, .int j] (.int (min i j)) := ⟨_, call_min2 hc, fun S H xs Q hx k m => by
  cases hx with | cons h1 h2 => cases h2 with | cons h2 h3 => cases h3; cases h1; cases h2; exact ⟨i, j, rfl, by
    have e : (if j < i then j else i) = min i j := by omega
    rw [e]; exact k _ H (Same.refl H) m (Dt.int _)⟩⟩
theorem cd_max2 {i j : Int} (hc : X.calm = true := by rfl) : CallD X (.builtin "max") [.int i, .int j] (.int (max i j)) := ⟨_, call_max2 hc, fun S H xs Q hx k m => by
  cases hx with | cons h1 h2 => cases h2 with | cons h2 h3 => cases h3; cases h1; cases h2; exact ⟨i, j, rfl, by
    have e : (if j > i then j else i) = max i j := by omega
    rw [e]; exact k _ H (Same.refl H) m (Dt.int _)⟩⟩
theorem cd_intB {k : Bool} : CallD X (.type "int") [.bool k] (.int (if k then 1 else 0)) := ⟨_, call_int1, fun S H xs Q hx q m => by
  cases hx with | cons h1 h2 => cases h2; cases h1; exact .inr ⟨k, rfl, q _ H (Same.refl H) m (Dt.int _)⟩⟩
theorem cd_intI {i : Int} : CallD X (.type "int") [.int i] (.int i) := ⟨_, call_int1, fun S H xs Q hx q m => by
  cases hx with | cons h1 h2 => cases h2; cases h1; exact .inl ⟨i, rfl, q _ H (Same.refl H) m (Dt.int _)⟩⟩
theorem cd_strI {i : Int} (h : i.natAbs.log2 < 1920) : CallD X (.type "str") [.int i] (.str (toString i : String)) := ⟨_, call_str_int, fun S H xs Q hx q m => by
  cases hx with | cons h1 h2 => cases h2; cases h1; exact ⟨i, rfl, h, q _ H (Same.refl H) m (Dt.str _)⟩⟩
theorem cd_intS {z : Str} {n : Int} (h : PySem.intText? z = some n) (hz : z.length ≤ 640) : CallD X (.type "int") [.str z] (.int n) := ⟨_, call_int_str, fun S H xs Q hx q m => by
  cases hx with | cons h1 h2 => cases h2; cases h1; exact ⟨z, n, rfl, h, hz, q _ H (Same.refl H) m (Dt.int _)⟩⟩
theorem cd_sum {ns : List Int} (hc : X.calm = true := by rfl) : CallD X (.builtin "sum") [.list (ns.map .int)] (.int ns.sum) := ⟨_, cr_sum hc, fun S H xs Q hx k m => by
  cases hx with | cons h1 h2 => cases h2; cases h1 with | lst a1 a2 => exact ⟨_, ns, rfl, by rw [← dpAll_ints a2]; exact SqL.of (unhid _ _ a1), k _ H (Same.refl H) m (Dt.int _)⟩⟩
theorem dtAll_bools {K : PySem.W.Frag} {H : Hp} : ∀ {ns : List Bool} {vs : List V}, DtAll K H vs (ns.map .bool) → vs = ns.map V.bl
  | [], _, h => by cases h; rfl
  | n :: ns, _, h => by
    cases h with | cons h r => cases h; rw [dtAll_bools r]; rfl
theorem cd_all {bs : List Bool} (hc : X.calm = true := by rfl) : CallD X (.builtin "all") [.list (bs.map .bool)] (.bool (bs.all id)) := ⟨_, cr_all hc, fun S H xs Q hx k m => by
  cases hx with | cons h1 h2 => cases h2; cases h1 with | lst a1 a2 => exact ⟨_, bs, rfl, by rw [← dtAll_bools a2]; exact SqL.of (unhid _ _ a1), k _ H (Same.refl H) m (Dt.bl _)⟩⟩
/-- list(xs), list(t): a new list of ours -/
theorem dn_listOf {p : Pos} {x : Str} {ds : List PyData} {d : PyData} (hd : d = .list ds ∨ d = .tuple ds) (hm : X.mg x = none) (ha : DAd X F g [e] g1 [d]) (hg : Gl X x := by rfl) (hv : bootBuiltins x = some (.type "list") := by decide +kernel) (hn : x ≠ "__name__" := by decide)
    (hdb : (x == ("__debug__" : Str)) = false := by decide) (he : starEach (e :: []) X.env = (false, eval e X.env) :: starEach [] X.env := by rfl) (hpl : (backTo pos (starEach [] X.env)).any (·.1) = false := by rfl) : DN X F g (.Call (.Name x p) [e] [] pos) g1 (.lst (ds.map .d)) := by
  refine ⟨ha.dom, fun σ H Q s q => eS_of (pe_callTy call_list_of hg hm hv pa_s hn hdb he hpl) (ha.run σ H _ s fun vs H1 s1 k1 x1 => ?_)⟩
  cases x1 with
  | cons a1 a2 =>
    cases a2
    rcases hd with rfl | rfl
    · cases a1 with
      | lst b1 b2 => exact ⟨_, _, rfl, .inl (SqL.of (unhid _ _ b1)), fun p hp => dn_at ha.dom s1 k1 p hp (by rw [hd_dom ha.dom]; exact ⟨_, rfl, paired_of_dp b2⟩) q⟩
    · cases a1 with
      | tup b1 b2 => exact ⟨_, _, rfl, .inr (same_t unhid b1), fun p hp => dn_at ha.dom s1 k1 p hp (by rw [hd_dom ha.dom]; exact ⟨_, rfl, paired_of_dp b2⟩) q⟩
/-- xs + ys: a new list of ours -/
theorem dn_cat {ds es : List PyData} (ha : DE X F g a g1 (.d (.list ds))) (hb : DE X F g1 b g2 (.d (.list es))) (hz : ds.length + es.length ≤ 100000) : DN X F g (.BinOp a .Add b pos) g2 (.lst ((ds ++ es).map .d)) := by
  have dm := hb.dom.trans ha.dom
  refine ⟨dm, fun σ H Q s q => eS_of (pe_op op_cat pe_s pe_s) ?_⟩
  refine ha.run σ H _ s fun x H1 s1 k1 x1 => hb.run σ H1 _ s1 fun y H2 s2 k2 y2 => ?_
  rw [hd_dom ha.dom, hd_dom ha.dom] at k2
  rw [hd_dom ha.dom] at y2
  have x2 := dp_mono k2 x1
  cases x2 with
  | lst a1 a2 =>
    cases y2 with
    | lst b1 b2 =>
      refine ⟨_, _, _, _, rfl, rfl, unhid _ _ a1, unhid _ _ b1, by rw [dpAll_length a2, dpAll_length b2]; exact Nat.le_trans hz (by decide), fun p hp => dn_at dm s2 (k1.trans k2) p hp ?_ q⟩
      rw [hd_dom dm]
      exact ⟨_, rfl, paired_of_dp (dpAll_append a2 b2)⟩
/-- t + u -/
theorem o_catT {K : PySem.W.Frag} {ds es : List PyData} (hK : K = X.K) (hz : ds.length + es.length ≤ 1000) : OpD X K (binaryOp .Add) (.tuple ds) (.tuple es) (.tuple (ds ++ es)) := by
  subst hK
  refine ⟨_, op_catA, fun S H x y Q hx hy k m => ?_⟩
  cases hx with
  | tup a1 a2 =>
    cases hy with
    | tup b1 b2 =>
      refine ⟨_, _, _, _, rfl, rfl, same_t unhid a1, same_t unhid b1, by rw [dpAll_length a2, dpAll_length b2]; exact le_line hz, fun h0 => ?_, fun h0 h1 => ?_, fun h0 h1 p hp => ?_⟩
      · subst h0; cases a2; exact k _ H (Same.refl H) m (.tup b1 b2)
      · subst h1; cases b2; exact k _ H (Same.refl H) m (by rw [List.append_nil]; exact .tup a1 a2)
      · have hn : p ∉ S := fun z => m p z hp
        exact k _ _ (same_new hp) m (.tup (SqT.of (hid_of hn upd_same)) (dpAll_mono (hid_same (same_new hp)) (dpAll_append a2 b2)))
end DL
end L2
set_option Elab.async false
set_option linter.all false
set_option maxRecDepth 100000
set_option maxHeartbeats 4000000
namespace L2
namespace DL
open PySem PySem.Spec PyProof.Rows
variable {X : Cx} {F : Fm} {g g1 g2 g3 : G} {e a b c : Expr} {es : List Expr} {r s t : Sl} {rs : List Sl} {pos : Pos} {st : Stmt} {rest body : List Stmt} {z : Z}
/-! ### frames anew: from here on -/
theorem Sat.apart {K : PySem.W.Frag} {σ : St} {H : Hp} (s : Sat K F g σ H) {a : Addr} (h : a ∈ F.S) : a ∉ g.dom := fun m => by
  obtain ⟨h1, h2⟩ := s.sH a h
  rcases s.fr a m with q | q
  · exact h1 q
  · exact h2 q
theorem Sat.rebase {K : PySem.W.Frag} {σ : St} {H : Hp} (s : Sat K F g σ H) : Sat K ⟨F.S, H, g.dom⟩ g σ H :=
  ⟨s.sl, s.ow, s.nd, fun _ _ q _ => q, fun a m => .inr m, fun a m => ⟨s.sIn m, s.apart m⟩, fun a m => s.owIn m⟩
theorem Sat.unbase {K : PySem.W.Frag} {σ σ' : St} {H H' : Hp} {g' : G} (s : Sat K F g σ H) (s' : Sat K ⟨F.S, H, g.dom⟩ g' σ' H') : Sat K F g' σ' H' := by
  refine ⟨s'.sl, s'.ow, s'.nd, fun b o q m => s'.ex b o (s.ex b o q m) fun z => ?_, fun a m => ?_, s.sH, fun a m => ?_⟩
  · rcases s.fr b z with y | y
    · rw [y] at q; cases q
    · exact m y
  · rcases s'.fr a m with y | y
    · exact .inl (s.fresh0 y)
    · exact s.fr a y
  · by_cases y : a ∈ g.dom
    · exact s'.mH a y
    · cases q : H a with
      | none => exact absurd q (s.mH a m)
      | some o => rw [s'.ex a o q y]; simp
/-- what was shared stays -/
theorem Sat.stays {K : PySem.W.Frag} {σ' : St} {H H' : Hp} {g' : G} (s' : Sat K ⟨F.S, H, g.dom⟩ g' σ' H') : Same (F.hd g H) (F.hd g' H') := fun b o q => by
  obtain ⟨m, q⟩ := hid_some q
  refine hid_of (fun z => ?_) (s'.ex b o q fun y => m (List.mem_append_right _ y))
  rcases List.mem_append.mp z with z | z
  · exact m (List.mem_append_left _ z)
  · rcases s'.fr b z with y | y
    · rw [show H b = none from y] at q; cases q
    · exact m (List.mem_append_right _ y)
theorem ZOk.base {σ : St} {H : Hp} {D : Ends} (s : Sat X.K F g σ H) (h : ZOk X F z D) : ZOk X ⟨F.S, H, g.dom⟩ z D :=
  ⟨fun g' σ' H' q s' => h.nx g' σ' H' q (s.unbase s'), fun g' r σ' v H' q s' k => h.rt g' r σ' v H' q (s.unbase s') k, fun g' σ' H' q s' => h.bk g' σ' H' q (s.unbase s'), fun g' σ' H' q s' => h.ct g' σ' H' q (s.unbase s'), fun g' C ofs σ' d H' q s' k => h.xx g' C ofs σ' d H' q (s.unbase s') k⟩
/-! ### targets -/
def gS (X : Cx) (tg : Expr) : TG := fun v σ H Q => ∀ pins s u, Inv X pins σ H s → RelV v u → wpAny (model X.prog X.w) X.A (assign tg X.env u) (fun _ s' => ∃ σ' H', Inv X pins σ' H' s' ∧ Q σ' H') X.xe s
def gsS (X : Cx) (ts : List Expr) : TGs := fun vs σ H Q => ∀ pins s us, Inv X pins σ H s → Vals vs us → wpAny (model X.prog X.w) X.A (assignInOrder ((assignEach ts X.env).map (·.2)) us) (fun _ s' => ∃ σ' H', Inv X pins σ' H' s' ∧ Q σ' H') X.xe s
theorem pg_s {tg : Expr} : PG X tg (gS X tg) := ⟨fun pins s _ _ _ u _ I r h => h pins s u I r⟩
theorem pgs_s {ts : List Expr} : PGs X ts (gsS X ts) := ⟨fun pins s _ _ _ us _ I r h => h pins s us I r⟩
theorem gS_of {tg : Expr} {t : TG} (h : PG X tg t) {v : V} {σ : St} {H : Hp} {Q : St → Hp → Prop} (q : t v σ H Q) : gS X tg v σ H Q := fun pins s u I r => h.run pins s σ H v u Q I r q
theorem gsS_of {ts : List Expr} {t : TGs} (h : PGs X ts t) {vs : List V} {σ : St} {H : Hp} {Q : St → Hp → Prop} (q : t vs σ H Q) : gsS X ts vs σ H Q := fun pins s us I r => h.run pins s σ H vs us Q I r q
theorem wipe_get : ∀ (σ : St) (vs : List Nat) (k : Nat), (wipe σ vs)[k]? = if k ∈ vs then (if k < σ.length then some none else none) else σ[k]?
  | σ, [], k => by simp [wipe]
  | σ, v :: vs, k => by
    show ((wipe σ vs).set v none)[k]? = _
    by_cases e : v = k
    · subst e
      rw [if_pos List.mem_cons_self]
      by_cases h : v < σ.length
      · rw [List.getElem?_set_self (by rw [wipe_length]; exact h), if_pos h]
      · rw [List.getElem?_eq_none (by rw [List.length_set, wipe_length]; omega), if_neg h]
    · rw [List.getElem?_set_ne e, wipe_get σ vs k]
      by_cases m : k ∈ vs
      · rw [if_pos m, if_pos (List.mem_cons_of_mem _ m)]
      · rw [if_neg m, if_neg (by simp only [List.mem_cons, not_or]; exact ⟨fun q => e q.symm, m⟩)]
theorem wipe_set {σ : St} {vs : List Nat} {j : Nat} {o : Option V} (h : j ∈ vs) : wipe (σ.set j o) vs = wipe σ vs := by
  refine List.ext_getElem? fun k => ?_
  rw [wipe_get, wipe_get, List.length_set]
  by_cases m : k ∈ vs
  · rw [if_pos m, if_pos m]
  · rw [if_neg m, if_neg m, List.getElem?_set_ne (fun q => m (by rw [← q]; exact h))]
theorem wipe_wipe (σ : St) (vs : List Nat) : wipe (wipe σ vs) vs = wipe σ vs := by
  refine List.ext_getElem? fun k => ?_
  rw [wipe_get, wipe_get, wipe_length]
  by_cases m : k ∈ vs
  · rw [if_pos m, if_pos m]
  · rw [if_neg m, if_neg m]
/-- σ' is σ but for the slots js -/
def ButAt (js : List Nat) (σ σ' : St) : Prop := ∀ vs : List Nat, (∀ j ∈ js, j ∈ vs) → wipe σ' vs = wipe σ vs
structure DG (X : Cx) (F : Fm) (g : G) (tg : Expr) (r : Sl) (g' : G) (js : List Nat) : Prop where
  ow : g'.ow = g.ow
  run : ∀ σ H v (Q : St → Hp → Prop), Sat X.K F g σ H → SlOk X.K (F.hd g H) (some v) r → (∀ σ', Sat X.K F g' σ' H → ButAt js σ σ' → Q σ' H) → gS X tg v σ H Q
structure DGs (X : Cx) (F : Fm) (g : G) (ts : List Expr) (ds : List PyData) (g' : G) (js : List Nat) : Prop where
  ow : g'.ow = g.ow
  run : ∀ σ H vs (Q : St → Hp → Prop), Sat X.K F g σ H → DtAll X.K (F.hd g H) vs ds → (∀ σ', Sat X.K F g' σ' H → ButAt js σ σ' → Q σ' H) → gsS X ts vs σ H Q
theorem Sat.setSl {K : PySem.W.Frag} {σ : St} {H : Hp} (s : Sat K F g σ H) {i : Nat} {v : V} {r : Sl} (h : SlOk K (F.hd g H) (some v) r) : Sat K F ⟨g.sl.set i r, g.ow⟩ (σ.set i (some v)) H :=
  ⟨paired_set h i s.sl, s.ow, s.nd, s.ex, s.fr, s.sH, s.mH⟩
theorem dg_name (i : Nat) {x : Str} (nd : X.N.Nodup) (hi : X.N[i]? = some x := by rfl) (hx : Loc X.env.scope x := by first | exact Or.inl rfl | exact Or.inr rfl) (hf : X.fn x = true ∨ X.env.scope.names.lookup x = some .local := by first | exact .inl rfl | exact .inr rfl) :
    DG X F g (.Name x pos) r ⟨g.sl.set i r, g.ow⟩ [i] :=
  ⟨rfl, fun σ H v Q s h q => gS_of (pg_name nd hi hx hf) (q _ (s.setSl h) fun vs hv => wipe_set (hv i (by simp)))⟩
theorem dgs_nil : DGs X F g [] [] g [] := ⟨rfl, fun σ H vs Q s h q => gsS_of pgs_nil (by cases h; exact ⟨rfl, q σ s fun _ _ => rfl⟩)⟩
theorem dgs_cons {d : PyData} {ds : List PyData} {js ks : List Nat} (h : DG X F g e (.d d) g1 js) (hr : DGs X F g1 es ds g2 ks) (hs : (assignEach (e :: es) X.env).map (·.2) = assign e X.env :: (assignEach es X.env).map (·.2) := by rfl) : DGs X F g (e :: es) (d :: ds) g2 (js ++ ks) := by
  refine ⟨hr.ow.trans h.ow, fun σ H vs Q s x q => gsS_of (pgs_cons pg_s pgs_s hs) ?_⟩
  cases x with
  | cons x1 x2 =>
    refine ⟨_, _, rfl, h.run σ H _ _ s x1 fun σ1 s1 b1 => hr.run σ1 H _ Q s1 ?_ fun σ2 s2 b2 => q σ2 s2 fun vs hv => (b2 vs fun j m => hv j (List.mem_append_right _ m)).trans (b1 vs fun j m => hv j (List.mem_append_left _ m))⟩
    have : F.hd g1 H = F.hd g H := hd_dom (by show g1.ow.map _ = g.ow.map _; rw [h.ow]) H
    rw [this]
    exact x2
theorem dg_tup {k : Nat} {ds : List PyData} {js : List Nat} (hc : X.calm = true) (h : DGs X F g es ds g1 js) (hn : (assignEach es X.env).length = ds.length := by rfl) (hst : (assignEach es X.env).findIdx? (·.1) = none := by rfl) : DG X F g (.Tuple es k pos) (.d (.tuple ds)) g1 js := by
  refine ⟨h.ow, fun σ H v Q s x q => gS_of (pg_tup hc pgs_s rfl hst) ?_⟩
  have x' : Dt X.K (F.hd g H) v (.tuple ds) := x
  cases x' with
  | tup a1 a2 => exact ⟨_, _, rfl, same_t unhid a1, by rw [dpAll_length a2]; exact hn.symm, h.run σ H _ Q s a2 q⟩
/-! ### statements -/
theorem ds_nil (h : z.nx g) : DS X F g [] z := DS.mk fun σ H D s k => uS_of pss_nil (k.nx g σ H h s)
theorem ds_set (i : Nat) {x : Str} {p2 : Pos} (nd : X.N.Nodup) (he : DE X F g e g1 r) (k : DS X F ⟨g1.sl.set i r, g1.ow⟩ rest z) (hi : X.N[i]? = some x := by rfl) (hx : Loc X.env.scope x := by first | exact Or.inl rfl | exact Or.inr rfl)
    (hs : swapsWith e (some (.Name x p2)) pos.line X.env = pure false := by rfl) (hf : X.fn x = true ∨ X.env.scope.names.lookup x = some .local := by first | exact .inl rfl | exact .inr rfl) : DS X F g (.Assign [.Name x p2] e pos :: rest) z := DS.mk fun σ H D s zk =>
  uS_of (pss_cons (ps_set nd hi hx pe_s hs hf) pss_s) (he.run σ H _ s fun v H1 s1 k1 x1 => k _ H1 D (s1.setSl (by rw [hd_dom he.dom]; exact x1)) zk)
theorem ds_asg {tg : Expr} {js : List Nat} (he : DE X F g e g1 r) (hg : DG X F g1 tg r g2 js) (k : DS X F g2 rest z) (hs : swapsWithSole [tg] e pos.line X.env = pure false := by rfl) (hw : swappedStores [tg] e X.env = pure none := by rfl) (h1 : (assignEach [tg] X.env).map (·.2) = [assign tg X.env] := by rfl) : DS X F g (.Assign [tg] e pos :: rest) z := DS.mk fun σ H D s zk =>
  uS_of (pss_cons (ps_asg pe_s pg_s hs hw h1) pss_s) (he.run σ H _ s fun v H1 s1 k1 x1 => hg.run σ H1 v _ s1 (by rw [hd_dom he.dom]; exact x1) fun σ' s' _ => k σ' H1 D s' zk)
/-- a, b = x, y -/
theorem ds_par (i j : Nat) {x y : Str} {px py pt pt2 : Pos} {kt k2 : Nat} {r2 : Sl} (nd : X.N.Nodup) (ha : DE X F g a g1 r) (hb : DE X F g1 b g2 r2) (k : DS X F ⟨(g2.sl.set i r).set j r2, g2.ow⟩ rest z) (hc : X.calm = true := by rfl) (hi : X.N[i]? = some x := by rfl) (hj : X.N[j]? = some y := by rfl) (hij : i ≠ j := by decide)
    (hx : X.env.scope.names.lookup x = some .local := by rfl) (hy : X.env.scope.names.lookup y = some .local := by rfl) (hw : swappedStores [.Tuple [.Name x px, .Name y py] kt pt] (.Tuple [a, b] k2 pt2) X.env = pure (some [x, y]) := by rfl)
    (hs : swapsWithSole [.Tuple [.Name x px, .Name y py] kt pt] (.Tuple [a, b] k2 pt2) pos.line X.env = pure false := by rfl) (e1 : starEach [a, b] X.env = (false, eval a X.env) :: starEach [b] X.env := by rfl) (e2 : starEach [b] X.env = (false, eval b X.env) :: starEach [] X.env := by rfl) : DS X F g (.Assign [.Tuple [.Name x px, .Name y py] kt pt] (.Tuple [a, b] k2 pt2) pos :: rest) z := DS.mk fun σ H D s zk =>
  uS_of (pss_cons (ps_par hc nd hi hj hij hx hy pa_s hw hs) pss_s) (aS_of (pa_cons pe_s (pa_cons pe_s pa_nil e2) e1) (ha.run σ H _ s fun v H1 s1 k1 x1 => hb.run σ H1 _ s1 fun u H2 s2 kk2 x2 => ⟨v, u, rfl, by
    rw [hd_dom ha.dom, hd_dom ha.dom] at kk2
    rw [hd_dom ha.dom] at x2
    have e : F.hd g2 H2 = F.hd g H2 := hd_dom (hb.dom.trans ha.dom) H2
    exact k _ H2 D ((s2.setSl (i := i) (by rw [e]; exact slOk_mono kk2 x1)).setSl (i := j) (by show SlOk X.K (F.hd g2 H2) (some u) r2; rw [e]; exact x2)) zk⟩))
/-- x = a new object of ours -/
theorem ds_new (i : Nat) {x : Str} {p2 : Pos} {od : OD} (nd : X.N.Nodup) (he : DN X F g e g1 od) (k : ∀ p, p ∉ F.M → p ∉ F.S ++ g.dom → DS X F ⟨g1.sl.set i (.v (.ref p)), g1.ow ++ [(p, od)]⟩ rest z) (hi : X.N[i]? = some x := by rfl) (hx : Loc X.env.scope x := by first | exact Or.inl rfl | exact Or.inr rfl)
    (hs : swapsWith e (some (.Name x p2)) pos.line X.env = pure false := by rfl) (hf : X.fn x = true ∨ X.env.scope.names.lookup x = some .local := by first | exact .inl rfl | exact .inr rfl) : DS X F g (.Assign [.Name x p2] e pos :: rest) z := DS.mk fun σ H D s zk =>
  uS_of (pss_cons (ps_set nd hi hx pe_s hs hf) pss_s) (he.run σ H _ s fun p H1 hM hn h0 s1 k1 => k p hM hn _ H1 D (Sat.setSl (g := ⟨g1.sl, g1.ow ++ [(p, od)]⟩) s1 rfl) zk)
theorem ds_expr (he : DE X F g e g1 r) (k : DS X F g1 rest z) (hs : swapsWith e none pos.line X.env = pure false := by rfl) : DS X F g (.Expr e pos :: rest) z := DS.mk fun σ H D s zk =>
  uS_of (pss_cons (ps_expr pe_s hs) pss_s) (he.run σ H _ s fun v H1 s1 _ _ => k σ H1 D s1 zk)
theorem ds_pass (k : DS X F g rest z) : DS X F g (.Pass pos :: rest) z := DS.mk fun σ H D s zk => uS_of (pss_cons ps_pass pss_s) (k σ H D s zk)
theorem ds_doc {x j p2} (k : DS X F g rest z) : DS X F g (.Expr (.Constant (.str x) j pos) p2 :: rest) z := DS.mk fun σ H D s zk => uS_of (pss_cons ps_doc pss_s) (k σ H D s zk)
theorem ds_ret (he : DE X F g e g1 r) (h : z.rt g1 r) : DS X F g (.Return (some e) pos :: rest) z := DS.mk fun σ H D s zk =>
  uS_of (pss_cons (ps_ret pe_s) pss_s) (he.run σ H _ s fun v H1 s1 k1 x1 => zk.rt g1 r σ v H1 h s1 (by rw [hd_dom he.dom]; exact x1))
theorem ds_retn {od : OD} (he : DN X F g e g1 od) (h : ∀ p, p ∉ F.M → p ∉ F.S ++ g.dom → z.rt ⟨g1.sl, g1.ow ++ [(p, od)]⟩ (.v (.ref p))) : DS X F g (.Return (some e) pos :: rest) z := DS.mk fun σ H D s zk =>
  uS_of (pss_cons (ps_ret pe_s) pss_s) (he.run σ H _ s fun p H1 hM hn h0 s1 k1 => zk.rt _ _ σ _ H1 (h p hM hn) s1 rfl)
theorem ds_ret0 (h : z.rt g (.d .none)) : DS X F g (.Return none pos :: rest) z := DS.mk fun σ H D s zk => uS_of (pss_cons ps_retN pss_s) (zk.rt g _ σ _ H h s Dt.non)
theorem ds_brk (h : z.bk g) : DS X F g (.Break pos :: rest) z := DS.mk fun σ H D s zk => uS_of (pss_cons ps_break pss_s) (zk.bk g σ H h s)
theorem ds_cont (h : z.ct g) : DS X F g (.Continue pos :: rest) z := DS.mk fun σ H D s zk => uS_of (pss_cons ps_continue pss_s) (zk.ct g σ H h s)
/-- an if, the rest behind each way -/
theorem ds_if {k : Bool} {A B : List Stmt} (hc : DT X F g c g1 k) (h1 : k = true → DS X F g1 A ⟨fun g' => DS X F g' rest z, z.rt, z.bk, z.ct, z.ex⟩) (h2 : k = false → DS X F g1 B ⟨fun g' => DS X F g' rest z, z.rt, z.bk, z.ct, z.ex⟩) : DS X F g (.If c A B pos :: rest) z := DS.mk fun σ H D s zk =>
  uS_of (pss_cons (ps_if pt_s pss_s pss_s) pss_s) (hc.run σ H _ s fun H1 s1 k1 => by
    have zk' : ZOk X F ⟨fun g' => DS X F g' rest z, z.rt, z.bk, z.ct, z.ex⟩ { D with nx := uS X rest D } := ⟨fun g' σ' H' q s' => q σ' H' D s' zk, zk.rt, zk.bk, zk.ct, zk.xx⟩
    cases k with
    | true => exact h1 rfl σ H1 _ s1 zk'
    | false => exact h2 rfl σ H1 _ s1 zk')
/-- an if without else, its way leaving -/
theorem ds_ifx {k : Bool} {A : List Stmt} (hc : DT X F g c g1 k) (h1 : k = true → DS X F g1 A ⟨fun g' => DS X F g' rest z, z.rt, z.bk, z.ct, z.ex⟩) (h2 : k = false → DS X F g1 rest z) : DS X F g (.If c A [] pos :: rest) z := ds_if hc h1 fun q => ds_nil (h2 q)
/-- a way that is not taken -/
theorem ds_no (h : False) : DS X F g rest z := h.elim
/-- a word between -/
theorem ds_mono {z' : Z} (h : DS X F g rest z') (h1 : ∀ g, z'.nx g → z.nx g) (h2 : ∀ g r, z'.rt g r → z.rt g r) (h3 : ∀ g, z'.bk g → z.bk g) (h4 : ∀ g, z'.ct g → z.ct g) (h5 : ∀ g C o, z'.ex g C o → z.ex g C o) : DS X F g rest z := DS.mk fun σ H D s zk =>
  h σ H D s ⟨fun g σ H q => zk.nx g σ H (h1 g q), fun g r σ v H q => zk.rt g r σ v H (h2 g r q), fun g σ H q => zk.bk g σ H (h3 g q), fun g σ H q => zk.ct g σ H (h4 g q), fun g C o σ d H q => zk.xx g C o σ d H (h5 g C o q)⟩
/-! ### what is walked -/
structure JOk (K : PySem.W.Frag) (J : It) (Hd : Hp) (ds : List PyData) : Prop where
  go : ∀ i H T d, Same Hd (hid T H) → (∀ a ∈ T, H a ≠ none) → ds[i]? = some d → J.go i H ∧ ∀ x H', J.yld i H x H' → Same H H' ∧ Dt K (hid T H') x d
  stop : ∀ i H T, Same Hd (hid T H) → ds.length ≤ i → J.stop i H
def iS (X : Cx) (tg iter : Expr) : TI := fun σ H R => ∀ pins s, Inv X pins σ H s → wpAny (model X.prog X.w) X.A (eval iter X.env) (fun v s1 => wpAny (model X.prog X.w) X.A (pyIter v) (PIE X pins σ tg R) X.xe s1) X.xe s
theorem pi_s {tg iter : Expr} : PI X tg iter (iS X tg iter) := ⟨fun pins s _ _ _ I h => h pins s I⟩
theorem iS_of {tg iter : Expr} {t : TI} (h : PI X tg iter t) {σ : St} {H : Hp} {R : It → Hp → Prop} (q : t σ H R) : iS X tg iter σ H R := fun pins s I => h.run pins s σ H R I q
structure DI (X : Cx) (F : Fm) (g : G) (tg iter : Expr) (g' : G) (ds : List PyData) : Prop where
  dom : g'.dom = g.dom
  run : ∀ σ H (R : It → Hp → Prop), Sat X.K F g σ H → (∀ J H', Sat X.K F g' σ H' → Same (F.hd g H) (F.hd g H') → JOk X.K J (F.hd g H') ds → R J H') → iS X tg iter σ H R
variable {tg iter : Expr} {ds : List PyData}
theorem sqL_eq {K : PySem.W.Frag} {H : Hp} {a : Addr} {xs ys : List V} (h : H a = some (.lst xs)) (h' : SqL K H a ys) (I : K.lookup a = none) : xs = ys := by
  rcases h' with (h' | ⟨o, h'⟩) | ⟨o, _, _, h', _⟩
  · rw [h] at h'; cases h'; rfl
  · rw [h] at h'; cases h'
  · rw [I] at h'; cases h'
theorem di_list (h : DE X F g iter g1 (.d (.list ds))) : DI X F g tg iter g1 ds := by
  refine ⟨h.dom, fun σ H R s q => iS_of (pi_list pe_s) (h.run σ H _ s fun v H1 s1 k1 x1 => ?_)⟩
  cases x1 with
  | @lst a xs _ a1 a2 =>
    refine ⟨a, rfl, ⟨xs, SqL.of (unhid _ _ a1)⟩, q _ H1 s1 k1 ⟨fun i H2 T d e m hi => ?_, fun i H2 T e hi => ⟨xs, SqL.of (unhid _ _ (e _ _ a1)), by rw [dpAll_length a2]; exact hi⟩⟩⟩
    have b1 := e _ _ a1
    obtain ⟨v, v1, v2⟩ := dpAll_get a2 hi
    refine ⟨⟨xs, v, SqL.of (unhid _ _ b1), v1⟩, fun x H' hy => ?_⟩
    obtain ⟨rfl, hy⟩ := hy
    have ev := hy xs (SqL.of (unhid _ _ b1))
    rw [v1] at ev
    cases ev
    exact ⟨Same.refl _, dp_mono e v2⟩
theorem di_tup (h : DE X F g iter g1 (.d (.tuple ds))) : DI X F g tg iter g1 ds := by
  refine ⟨h.dom, fun σ H R s q => iS_of (pi_tup pe_s) (h.run σ H _ s fun v H1 s1 k1 x1 => ?_)⟩
  cases x1 with
  | @tup a xs _ a1 a2 =>
    refine ⟨a, rfl, ⟨xs, same_t unhid a1⟩, q _ H1 s1 k1 ⟨fun i H2 T d e m hi => ?_, fun i H2 T e hi => ⟨xs, same_t unhid (same_t e a1), by rw [dpAll_length a2]; exact hi⟩⟩⟩
    have b1 := same_t e a1
    obtain ⟨v, v1, v2⟩ := dpAll_get a2 hi
    refine ⟨⟨xs, v, same_t unhid b1, v1⟩, fun x H' hy => ?_⟩
    obtain ⟨rfl, hy⟩ := hy
    have ev := hy xs (same_t unhid b1)
    rw [v1] at ev
    cases ev
    exact ⟨Same.refl _, dp_mono e v2⟩
/-- 0, 1, .. -/
def upTo (lo : Int) (n : Nat) : List PyData := (List.range n).map fun i => .int (lo + (i : Nat))
theorem upTo_get {lo : Int} {n i : Nat} {d : PyData} (h : (upTo lo n)[i]? = some d) : i < n ∧ d = .int (lo + (i : Nat)) := by
  unfold upTo at h
  rw [List.getElem?_map] at h
  by_cases hi : i < n
  · rw [List.getElem?_range hi] at h
    cases h
    exact ⟨hi, rfl⟩
  · rw [List.getElem?_eq_none (by simpa using hi)] at h
    cases h
theorem upTo_length (lo : Int) (n : Nat) : (upTo lo n).length = n := by simp [upTo]
theorem jok_range {K : PySem.W.Frag} {lo : Int} {n : Nat} {Hd : Hp} : JOk K (Itr lo n) Hd (upTo lo n) :=
  ⟨fun i H T d e m hi => ⟨(upTo_get hi).1, fun x H' hy => by obtain ⟨rfl, rfl⟩ := hy; rw [(upTo_get hi).2]; exact ⟨Same.refl _, Dt.int _⟩⟩, fun i H T e hi => by rw [upTo_length] at hi; exact hi⟩
theorem di_range1 {p : Pos} {j : Int} (hm : X.mg "range" = none) (h : DE X F g a g1 (.d (.int j))) (hj : -(2 ^ 62) ≤ j ∧ j < 2 ^ 62) (hg : Gl X "range" := by rfl) (hs : starEach [a] X.env = [(false, eval a X.env)] := by rfl) : DI X F g tg (.Call (.Name "range" p) [a] [] pos) g1 (upTo 0 j.toNat) :=
  ⟨h.dom, fun σ H R s q => iS_of (pi_range1 hg hm (pa_cons pe_s pa_nil hs) hs) (h.run σ H _ s fun v H1 s1 k1 x1 => by cases x1; exact ⟨j, rfl, hj.1, hj.2, q _ H1 s1 k1 jok_range⟩)⟩
theorem di_range2 {p : Pos} {i j : Int} (hm : X.mg "range" = none) (ha : DE X F g a g1 (.d (.int i))) (hb : DE X F g1 b g2 (.d (.int j))) (hj : -(2 ^ 62) ≤ i ∧ i < 2 ^ 62 ∧ -(2 ^ 62) ≤ j ∧ j < 2 ^ 62) (hg : Gl X "range" := by rfl)
    (hs : starEach [a, b] X.env = [(false, eval a X.env), (false, eval b X.env)] := by rfl) (hs2 : starEach [b] X.env = [(false, eval b X.env)] := by rfl) : DI X F g tg (.Call (.Name "range" p) [a, b] [] pos) g2 (upTo i (j - i).toNat) := by
  refine ⟨hb.dom.trans ha.dom, fun σ H R s q => iS_of (pi_range2 hg hm (pa_cons pe_s (pa_cons pe_s pa_nil hs2) (by rw [hs, hs2])) hs hs2) (ha.run σ H _ s fun v H1 s1 k1 x1 => hb.run σ H1 _ s1 fun u H2 s2 k2 x2 => ?_)⟩
  rw [hd_dom ha.dom, hd_dom ha.dom] at k2
  cases x1; cases x2
  exact ⟨i, j, rfl, hj, q _ H2 s2 (k1.trans k2) jok_range⟩
theorem di_range3 {p : Pos} {i j k : Int} {n : Nat} (hm : X.mg "range" = none) (ha : DE X F g a g1 (.d (.int i))) (hb : DE X F g1 b g2 (.d (.int j))) (hc : DE X F g2 c g3 (.d (.int k))) (hj : RgC i j k n) (hg : Gl X "range" := by rfl)
    (hs : starEach [a, b, c] X.env = (false, eval a X.env) :: starEach [b, c] X.env := by rfl) (hs2 : starEach [b, c] X.env = (false, eval b X.env) :: starEach [c] X.env := by rfl) (hs3 : starEach [c] X.env = (false, eval c X.env) :: starEach [] X.env := by rfl) (hpl : (backTo pos (starEach [b, c] X.env)).any (·.1) = false := by rfl) : DI X F g tg (.Call (.Name "range" p) [a, b, c] [] pos) g3 ((List.range n).map fun t => .int (i + (t : Nat) * k)) := by
  refine ⟨hc.dom.trans (hb.dom.trans ha.dom), fun σ H R s q => iS_of (pi_range3 hg hm (pa_cons pe_s (pa_cons pe_s (pa_cons pe_s pa_nil hs3) hs2) hs) hs hpl) (ha.run σ H _ s fun v H1 s1 k1 x1 => hb.run σ H1 _ s1 fun u H2 s2 k2 x2 => hc.run σ H2 _ s2 fun w' H3 s3 k3 x3 => ?_)⟩
  rw [hd_dom ha.dom, hd_dom ha.dom] at k2
  rw [hd_dom (hb.dom.trans ha.dom), hd_dom (hb.dom.trans ha.dom)] at k3
  cases x1; cases x2; cases x3
  refine ⟨i, j, k, n, rfl, hj, q _ H3 s3 (k1.trans (k2.trans k3)) ⟨fun t H4 T d e m hi => ?_, fun t H4 T e hi => by show n ≤ t; simpa using hi⟩⟩
  rw [List.getElem?_map] at hi
  by_cases ht : t < n
  · rw [List.getElem?_range ht] at hi
    cases hi
    exact ⟨ht, fun x H' hy => by obtain ⟨rfl, rfl⟩ := hy; exact ⟨Same.refl _, Dt.int _⟩⟩
  · rw [List.getElem?_eq_none (by simpa using ht)] at hi
    cases hi
/-- enumerate(xs) -/
def enumD (ds : List PyData) : List PyData := ds.zipIdx.map fun p => .tuple [.int (p.2 : Nat), p.1]
theorem enumD_get {ds : List PyData} {i : Nat} {d : PyData} (h : (enumD ds)[i]? = some d) : ∃ x, ds[i]? = some x ∧ d = .tuple [.int (i : Nat), x] := by
  unfold enumD at h
  rw [List.getElem?_map, List.getElem?_zipIdx] at h
  cases e : ds[i]? with
  | none => rw [e] at h; cases h
  | some x => rw [e] at h; cases h; exact ⟨x, rfl, by simp⟩
theorem enumD_length (ds : List PyData) : (enumD ds).length = ds.length := by simp [enumD]
theorem di_enum {p tpos : Pos} {elts : List Expr} {kk : Nat} (hm : X.mg "enumerate" = none) (h : DE X F g a g1 (.d (.list ds))) (hg : Gl X "enumerate" := by rfl) (hs : starEach [a] X.env = [(false, eval a X.env)] := by rfl) :
    DI X F g (.Tuple elts kk tpos) (.Call (.Name "enumerate" p) [a] [] pos) g1 (enumD ds) := by
  refine ⟨h.dom, fun σ H R s q => iS_of (pi_enum hg hm (pa_cons pe_s pa_nil hs) hs) (h.run σ H _ s fun v H1 s1 k1 x1 => ?_)⟩
  cases x1 with
  | @lst a xs _ a1 a2 =>
    refine ⟨a, xs, rfl, SqL.of (unhid _ _ a1), q _ H1 s1 k1 ⟨fun i H2 T d e m hi => ?_, fun i H2 T e hi => ⟨xs, SqL.of (unhid _ _ (e _ _ a1)), by rw [dpAll_length a2]; rw [enumD_length] at hi; exact hi⟩⟩⟩
    have b1 := e _ _ a1
    obtain ⟨d0, hd0, rfl⟩ := enumD_get hi
    obtain ⟨v, v1, v2⟩ := dpAll_get a2 hd0
    refine ⟨⟨xs, v, SqL.of (unhid _ _ b1), v1⟩, fun x H' hy => ?_⟩
    obtain ⟨T0, x0, rfl, nT, rfl, hy⟩ := hy
    have ev := hy xs (SqL.of (unhid _ _ b1))
    rw [v1] at ev
    cases ev
    have hn : T0 ∉ T := fun z => m T0 z nT
    exact ⟨same_new nT, .tup (SqT.of (hid_of hn upd_same)) (.cons (Dt.int _) (.cons (dp_mono (e.trans (hid_same (same_new nT))) v2) .nil))⟩
/-- zip(xs, ys) -/
def zipD (ds es : List PyData) : List PyData := (ds.zip es).map fun p => .tuple [p.1, p.2]
theorem di_zip {p tpos : Pos} {elts : List Expr} {kk : Nat} {es : List PyData} (hm : X.mg "zip" = none) (ha : DE X F g a g1 (.d (.list ds))) (hb : DE X F g1 b g2 (.d (.list es))) (hg : Gl X "zip" := by rfl)
    (hs : starEach [a, b] X.env = (false, eval a X.env) :: starEach [b] X.env := by rfl) (hs2 : starEach [b] X.env = (false, eval b X.env) :: starEach [] X.env := by rfl) (hpl : (backTo pos (starEach [b] X.env)).any (·.1) = false := by rfl) : DI X F g (.Tuple elts kk tpos) (.Call (.Name "zip" p) [a, b] [] pos) g2 (zipD ds es) := by
  refine ⟨hb.dom.trans ha.dom, fun σ H R s q => iS_of (pi_zip hg hm (pa_cons pe_s (pa_cons pe_s pa_nil hs2) hs) hs hpl) (ha.run σ H _ s fun v H1 s1 k1 x1 => hb.run σ H1 _ s1 fun u H2 s2 k2 x2 => ?_)⟩
  rw [hd_dom ha.dom, hd_dom ha.dom] at k2
  rw [hd_dom ha.dom] at x2
  have x1' := dp_mono k2 x1
  cases x1' with
  | @lst a xs _ a1 a2 =>
    cases x2 with
    | @lst b ys _ b1 b2 =>
      refine ⟨a, b, xs, ys, rfl, SqL.of (unhid _ _ a1), SqL.of (unhid _ _ b1), q _ H2 s2 (k1.trans k2) ⟨fun i H2 T d e m hi => ?_, fun i H2 T e hi => ⟨xs, ys, SqL.of (unhid _ _ (e _ _ a1)), SqL.of (unhid _ _ (e _ _ b1)), ?_⟩⟩⟩
      · have c1 := e _ _ a1
        have c2 := e _ _ b1
        unfold zipD at hi
        rw [List.getElem?_map] at hi
        cases w : (ds.zip es)[i]? with
        | none => rw [w] at hi; cases hi
        | some pr =>
          rw [w] at hi
          cases hi
          obtain ⟨w1, w2⟩ := List.getElem?_zip_eq_some.mp w
          obtain ⟨v, v1, v2⟩ := dpAll_get a2 w1
          obtain ⟨y, y1, y2⟩ := dpAll_get b2 w2
          refine ⟨⟨xs, ys, v, y, SqL.of (unhid _ _ c1), SqL.of (unhid _ _ c2), v1, y1⟩, fun x H' hy => ?_⟩
          obtain ⟨T0, x0, y0, rfl, nT, rfl, hy1, hy2⟩ := hy
          have ev := hy1 xs (SqL.of (unhid _ _ c1))
          have ew := hy2 ys (SqL.of (unhid _ _ c2))
          rw [v1] at ev
          rw [y1] at ew
          cases ev
          cases ew
          have hn : T0 ∉ T := fun z => m T0 z nT
          exact ⟨same_new nT, .tup (SqT.of (hid_of hn upd_same)) (.cons (dp_mono (e.trans (hid_same (same_new nT))) v2) (.cons (dp_mono (e.trans (hid_same (same_new nT))) y2) .nil))⟩
      · rw [dpAll_length a2, dpAll_length b2]
        unfold zipD at hi
        rw [List.length_map, List.length_zip] at hi
        omega
def signsD (x : Str) : List PyData := x.cps.toList.map fun c => .str ⟨#[c]⟩
theorem di_str {x : Str} (h : DE X F g iter g1 (.d (.str x))) : DI X F g tg iter g1 (signsD x) := by
  refine ⟨h.dom, fun σ H R s q => iS_of (pi_str pe_s) (h.run σ H _ s fun v H1 s1 k1 x1 => ?_)⟩
  cases x1
  refine ⟨x, rfl, q _ H1 s1 k1 ⟨fun i H2 T d e m hi => ?_, fun i H2 T e hi => by show x.cps.size ≤ i; simpa [signsD] using hi⟩⟩
  unfold signsD at hi
  rw [List.getElem?_map] at hi
  cases w : x.cps.toList[i]? with
  | none => rw [w] at hi; cases hi
  | some c =>
    rw [w] at hi
    cases hi
    have w' : x.cps[i]? = some c := by simpa using w
    refine ⟨(Array.getElem?_eq_some_iff.mp w').1, fun y H' hy => ?_⟩
    obtain ⟨rfl, c', hc', rfl⟩ := hy
    rw [w'] at hc'
    cases hc'
    exact ⟨Same.refl _, Dt.str _⟩
end DL
end L2
set_option Elab.async false
set_option linter.all false
set_option maxRecDepth 100000
set_option maxHeartbeats 4000000
/-! what is done while an exception is handled: lists walked, comprehensions, defs called whose promise tells of the exception -/
namespace HotX
open PySem PySem.Spec PyProof.Rows
section
variable {prog : Program} {w : World} {A : Around} {E : Value → Shared → Prop} {s : Shared}
theorem pyNext_list_end_hot {it l x1 : Addr} {i : Nat} {items : Array Value} {Q : Option Value → Shared → Prop} (hot : HotAt A x1 s.heap) (hit : s.heap.IsListIter it l i) (hl : s.heap.IsList l items) (hx : items[i]? = none)
    (hQ : ∀ h', (∀ b o, b ≠ it → s.heap.get? b = some o → h'.get? b = some o) → Q none { s with heap := h' }) : wpAny (model prog w) A (pyNext (.ref it)) Q E s := by
  obtain ⟨hh, o1, vs1, h1, d1, c1⟩ := hot
  obtain ⟨o, ho, hc, hd⟩ := id hit
  obtain ⟨ol, hol, _, nl, hdl⟩ := hl
  have ne : it ≠ x1 := fun e => by
    rw [e, h1] at ho
    cases ho
    rw [d1] at hd
    cases hd
    simp at c1
  unfold pyNext
  refine wpAny_bind (wpAny_attempt (wpAny_callSpecial?_slot (name := Str.ofString "__next__") hit.typeIs slot_listiter_next
    (wpAny_call_entry slot_listiter_next hit.typeIs entry_listiter_next ?_ (args_listiter_next _))))
  show wpAny _ _ (field (.ref it) 0 >>= _) _ _ s
  refine wpAny_bind (wpAny_field ho hd (x := .ref l) rfl ?_)
  show wpAny _ _ (if (Value.ref l == Value.none) = true then _ else _) _ _ s
  rw [if_neg (show ¬ ((Value.ref l == Value.none) = true) from Bool.false_ne_true)]
  show wpAny _ _ (field (.ref it) 1 >>= _) _ _ s
  refine wpAny_bind (wpAny_field ho hd (x := .int i 0) rfl ?_)
  show wpAny _ _ (seqItems? (.ref l) >>= _) _ _ s
  refine wpAny_bind (wpAny_seqItems hol hdl ?_)
  simp only [Int.toNat_natCast, hx]
  refine wpAny_bind (wpAny_rule (wpAny_bind (wpAny_setField ho hd (by simp) ?_)))
  show wpAny _ _ (newExc (.type "StopIteration") [] >>= _) _ _ _
  refine wpAny_bind ?_
  simp only [newExc, newTuple]
  refine wpAny_bind (wpAny_newObj_type ?_ (by size_fits))
  refine wpAny_bind (m := firstArgMember _ _) (wpAny_of_eq (a := Value.none) (by first | rfl | (simp only [firstArgMember]; rfl)) ?_)
  refine wpAny_newObj_type ?_ (by size_fits)
  have h2 := (Heap.get?_update_other s.heap (Obj.mapFields (·.setIfInBounds 0 Value.none)) ne).trans h1
  refine raiseNew_hot ⟨hh, o1, vs1, Heap.get?_push_of_some _ (Heap.get?_push_of_some _ h2), d1, c1⟩ (Nat.ne_of_lt (Heap.lt_size (Heap.get?_push_of_some _ h2))) (Heap.get?_push_size _ rfl) rfl (by first | (simp; done) | (simp; omega) | (simp only [Array.size_append]; simp; omega)) ?_
  refine wpAny_bind (wpAny_isInstance (T := "StopIteration") (b := true) ⟨_, Heap.get?_update_self _ (Heap.get?_push_size _ rfl) rfl, rfl⟩ isSubtype_stop ?_)
  refine wpAny_pure (hQ _ fun b o hb e => ?_)
  have e2 := (Heap.get?_update_other s.heap (Obj.mapFields (·.setIfInBounds 0 Value.none)) (Ne.symm hb)).trans e
  rw [Heap.get?_update_other _ _ (Nat.ne_of_gt (Heap.lt_size (Heap.get?_push_of_some _ e2)))]
  exact Heap.get?_push_of_some _ (Heap.get?_push_of_some _ e2)
end
end HotX
namespace L2H
open PySem PySem.Spec PyProof.Rows L2 HotX
theorem turn_listH {P : Program} {w : World} {K : PySem.W.Frag} {tg : Expr} (a it : Addr) : TurnH P w K tg (Itl K a) [it] it (fun i h => h.IsListIter it a i) where
  mem := by simp
  obj := fun i h st b hb => by
    have e : b = it := by simpa using hb
    subst e
    obtain ⟨o, e, c, d⟩ := st
    exact ⟨o, e, fun v z => by rw [d] at z; cases z⟩
  keep := fun i h h' st k => st.at fun o e => k it (by simp) o e
  item := by
    intro X hP hw hK hc i pins s σ H E I hf st hg
    subst hP hw hK
    obtain ⟨xs, x, hq, hx⟩ := hg
    obtain ⟨its, rv, p, hz⟩ := I.list hq
    obtain ⟨u, hu, ru⟩ := rv.get hx
    obtain ⟨f0, f1, f2, f3, f4, f5⟩ := hf it (by simp)
    refine wpAny_pyNext_list_item st p.isList (x := u) (by simpa using hu) fun h' st' sb => ?_
    have I1 : Inv X pins σ H { s with heap := h' } := I.turned (t' := s.toks) (fun b o hb e => (sb.2 b hb).trans e) f0 f1 f3 f4 f5
    obtain ⟨o, e, c, d⟩ := id st'
    exact ⟨u, rfl, go_of (s := { s with heap := h' }) e c d (by decide) ⟨x, H, I1, ru, ⟨rfl, fun ys hy => by rw [I.list_inj hy hq]; exact hx⟩, st', fun b hb => (hf b hb).1⟩⟩
  done := by
    intro X hP hw hK hc i pins s σ H E I hf st hg
    subst hP hw hK
    obtain ⟨xs, hq, hx⟩ := hg
    obtain ⟨its, rv, p, hz⟩ := I.list hq
    obtain ⟨f0, f1, f2, f3, f4, f5⟩ := hf it (by simp)
    have hl := rv.length
    obtain ⟨x1, hot⟩ := hc.at I
    exact pyNext_list_end_hot hot st p.isList (by simp; omega) fun h' eb => ⟨rfl, I.turned (t' := s.toks) (fun b o hb e => eb b o hb e) f0 f1 f3 f4 f5⟩
  self := fun _ _ _ _ _ st h => wpAny_pyIter_listiter st h
theorem pi_listH {X : Cx} {tg l : Expr} {tl : TE} (hl : PE X l tl) : PIH X tg l (iList X.K tl) := by
  refine ⟨fun pins s σ H R I h => ?_⟩
  refine thn (hl.run pins s σ H _ I h) fun v s1 ⟨x, H1, I1, r1, q1⟩ => ?_
  obtain ⟨a, e, ⟨xs, hq⟩, q⟩ := q1
  subst e
  cases r1
  obtain ⟨its, rv, p, hz⟩ := I1.list hq
  refine wpAny_pyIter_list p.isList ?_
  refine ⟨s1.heap.objs.size, [s1.heap.objs.size], _, _, H1, rfl, I1.kept (t' := s1.toks) fun b o e => Heap.get?_push_of_some _ e, turn_listH a _, ⟨_, Heap.get?_push_size _ rfl, rfl, rfl⟩, fun b hb => ?_, q⟩
  have e : b = s1.heap.objs.size := by simpa using hb
  subst e
  exact I1.fpOk (Nat.le_refl _) (I1.hok.fresh (Nat.le_refl _))
/-- the context of a block that starts while an exception is handled: it bears the pins -/
abbrev _root_.L2.Cx.blkH (X : Cx) (s : Shared) (H : Hp) (scope : Scope) (cenv : Env) (fp : List Addr) : Cx := { X.blk s H scope cenv fp with pn := X.pn }
section
variable {X : Cx} {pins : List (Addr × Obj)} {σ : L2.St} {H : Hp} {s : Shared}
theorem block_startH {scope : Scope} {own : List (Str × Nat)} {fp : List Addr} (I : Inv X pins σ H s) (ok : BlkOk X.N X.env.scope scope own) (hN : X.N.Nodup) (hfp : ∀ b ∈ fp, FpOk X pins H b ∧ b < s.heap.objs.size) :
    Inv (X.blkH s H scope (compEnvC scope (cellsFrom (s.heap.objs.size + 1) scope.names (cloFrom X.env.cells scope.names [])) s.heap.objs.size X.env) fp) [] (wipe σ (own.map (·.2))) H { s with heap := pushCells (s.heap.push { cls := .type "dict", data := .dict #[] }) scope.names } := by
  have B := block_start I ok hN hfp
  have kp : ∀ b o, s.heap.get? b = some o → (pushCells (s.heap.push { cls := .type "dict", data := .dict #[] }) scope.names).get? b = some o := fun b o e => pushCells_keeps _ _ _ _ (Heap.get?_push_of_some _ e)
  have o := B.ok
  refine ⟨⟨o.mod, o.kind, o.glob, o.blt, o.above, o.inj, o.has, o.cab, o.hd, o.frames, o.stk, o.exf, o.bs, o.bsz, o.noex, o.exfs, o.funs, o.frf⟩, B.os, B.bare, B.base, B.loc, B.cell, B.free, B.freeC, fun p hp => ?_, B.hok, B.len⟩
  have hp : p ∈ X.pn ++ [] := hp
  rw [List.append_nil] at hp
  obtain ⟨e, n, ne, nf, d⟩ := I.pin p (List.mem_append_left _ hp)
  have hlt : p.1 < s.heap.objs.size := Heap.lt_size e
  refine ⟨kp _ _ e, n, Nat.ne_of_lt hlt, fun m => ?_, d⟩
  rcases List.mem_cons.mp (I.stkSub p.1 m) with z | z
  · exact ne z
  · exact nf z
theorem lc_coreH {pins : List (Addr × Obj)} {s : Shared} {σ : L2.St} {H : Hp} {Q : VK} {elt tg iter : Expr} {ifs : List Expr} {scope : Scope} {own : List (Str × Nat)} {pos pos' : Pos} {wi : TI} {g : TG} {tt : TT} {te : TE} {use : Option (Value → Sem Unit)} {Qf : Value → Shared → Prop}
    (hc : HotC X) (hN : X.N.Nodup) (I : Inv X pins σ H s) (hi : PIH X tg iter wi) (ok : BlkOk X.N X.env.scope scope own)
    (hg : ∀ (s : Shared) (H : Hp) (C : Addr) (cl : List (Str × Addr)) (fp : List Addr), PG (X.blkH s H scope (compEnvC scope cl C X.env) fp) tg g) (ht : ∀ (s : Shared) (H : Hp) (C : Addr) (cl : List (Str × Addr)) (fp : List Addr), PTs (X.blkH s H scope (compEnvC scope cl C X.env) fp) ifs tt)
    (he : ∀ (s : Shared) (H : Hp) (C : Addr) (cl : List (Str × Addr)) (fp : List Addr), PE (X.blkH s H scope (compEnvC scope cl C X.env) fp) elt te) (hs : ∀ x, foldedSetIterable iter X.env x = pure x)
    (h : tLc wi g tt te (own.map (·.2)) σ H Q)
    (hRR : ∀ D C s' m H', Inv X pins σ H' s' → Q (.ref D) H' → s'.heap.Ns C m → FpOk X pins H' C → compPost (model X.prog X.w) X.A X.xe use Qf (.ref D) C (.ok .next) s') :
    wpAny (model X.prog X.w) X.A (comprehension (.ListComp elt [⟨tg, iter, ifs, 0⟩] scope pos) scope X.env pos' (newList []) false (eval iter X.env) use) Qf X.xe s := by
  have hfree : ∀ y ∈ scope.names, y.2 = .free → ∃ c, X.env.cells.lookup y.1 = some c := fun y hy e => by
    rcases ok.free y hy e with k | k
    · exact I.ok.has _ (.inl k)
    · exact I.ok.has _ (.inr k)
  refine wpAny_comprehension_free (use := use) rfl hs (closure_ok hfree) ok.kind (fun y hy e => by rw [ok.uniq y hy, e])
    (thn (hi.run pins s σ H _ I h) fun xv s1 hx => thn hx fun itv s2 h2 => ?_)
  obtain ⟨it, fp, tn, J, H2, e, I2, T, st2, f2, q⟩ := h2
  subst e
  refine wpAny_newObj_type (newEnv_comp ?_) (by show 0 ≤ sizeLine; decide)
  generalize hD : s2.heap.objs.size = D
  have hDn : H2 D = none := I2.hok.fresh (Nat.le_of_eq hD)
  obtain ⟨W, ⟨m0, w0⟩, turn⟩ := q D hDn
  generalize hs3 : ({ s2 with heap := s2.heap.push { cls := .type "list", data := .seq ([] : List Value).toArray } } : Shared) = s3
  have I3 : Inv X pins σ (upd H2 D (.lst [])) s3 := by
    rw [← hs3]
    refine I2.laid (t' := s2.toks) (fun b o e => Heap.get?_push_of_some _ e) (Nat.le_of_eq hD) ⟨Nat.zero_le _, [], 0, .nil, ?_⟩
    rw [← hD]
    exact Heap.get?_push_size _ rfl
  have h3 : s3.heap = s2.heap.push { cls := .type "list", data := .seq ([] : List Value).toArray } := by rw [← hs3]
  have sz : ∀ b ∈ fp, b < s2.heap.objs.size := fun b hb => by
    obtain ⟨o, e, _⟩ := T.obj _ _ st2 b hb
    exact Heap.lt_size e
  have f3 : ∀ b ∈ fp, FpOk X pins (upd H2 D (.lst [])) b ∧ b < s3.heap.objs.size := fun b hb => by
    have hlt := sz b hb
    refine ⟨⟨?_, (f2 b hb).2⟩, by rw [h3, Heap.size_push]; exact Nat.lt_succ_of_lt hlt⟩
    rw [upd_ne (by rw [← hD]; exact Nat.ne_of_lt hlt)]
    exact (f2 b hb).1
  have st3 : tn 0 s3.heap := T.keep _ _ _ st2 fun b _ o e => by rw [h3]; exact Heap.get?_push_of_some _ e
  have I4 := block_startH I3 ok hN f3
  have pg := hg s3 (upd H2 D (.lst [])) s3.heap.objs.size (cellsFrom (s3.heap.objs.size + 1) scope.names (cloFrom X.env.cells scope.names [])) fp
  have pt := ht s3 (upd H2 D (.lst [])) s3.heap.objs.size (cellsFrom (s3.heap.objs.size + 1) scope.names (cloFrom X.env.cells scope.names [])) fp
  have pe := he s3 (upd H2 D (.lst [])) s3.heap.objs.size (cellsFrom (s3.heap.objs.size + 1) scope.names (cloFrom X.env.cells scope.names [])) fp
  show codeAny _ _ (.compStart (.ListComp elt [⟨tg, iter, ifs, 0⟩] scope pos) 0 (.ref it) (.ref D) (compEnvC scope (cellsFrom (s3.heap.objs.size + 1) scope.names (cloFrom X.env.cells scope.names [])) s3.heap.objs.size X.env)) (compPost (model X.prog X.w) X.A X.xe use Qf (.ref D) s3.heap.objs.size) { s3 with heap := pushCells (s3.heap.push { cls := .type "dict", data := .dict #[] }) scope.names }
  have nfp : ∀ b ∈ fp, (upd H2 D (.lst [])) b = none := fun b hb => (f3 b hb).1.1
  generalize hce : compEnvC scope (cellsFrom (s3.heap.objs.size + 1) scope.names (cloFrom X.env.cells scope.names [])) s3.heap.objs.size X.env = ce at I4 pg pt pe ⊢
  have cL : ce.locals = s3.heap.objs.size := by subst hce; rfl
  generalize hH3 : upd H2 D (.lst []) = H3 at I3 I4 pg pt pe w0 nfp f3
  generalize hs4 : ({ s3 with heap := pushCells (s3.heap.push { cls := .type "dict", data := .dict #[] }) scope.names } : Shared) = s4 at I4 ⊢
  have st4 : tn 0 s4.heap := T.keep _ _ _ st3 fun b _ o e => by rw [← hs4]; exact pushCells_keeps _ _ _ _ (Heap.get?_push_of_some _ e)
  have hcB : HotC (X.blkH s3 H3 scope ce fp) := hc
  have npn : ∀ b ∈ fp, ∀ p ∈ X.pn, p.1 ≠ b := fun b hb p hp => (f2 b hb).2.2.2.2.2 p (List.mem_append_left _ hp)
  have stat : ∀ {σ' : L2.St} {H' : Hp} {s' : Shared}, Inv (X.blkH s3 H3 scope ce fp) [] σ' H' s' → (∀ b ∈ fp, H' b = none) → ∀ b ∈ fp, FpOk (X.blkH s3 H3 scope ce fp) [] H' b := fun {σ' H' s'} I' hn b hb =>
    ⟨hn b hb, (I'.ok.exf b hb).1, I'.ok.exfs b hb, .inl hb, fun x c e => (I'.ok.exf b hb).2 x c e, fun p hp => npn b hb p (by
      have hp : p ∈ X.pn ++ [] := hp
      rwa [List.append_nil] at hp)⟩
  have loop : codeAny (model X.prog X.w) X.A (.compLoop (.ListComp elt [⟨tg, iter, ifs, 0⟩] scope pos) 0 (.ref it) (.ref D) ce) (compPost (model X.prog X.w) X.A X.xe use Qf (.ref D) s3.heap.objs.size) s4 := by
    refine compLoop_any (fun n s' => ∃ i H', Inv (X.blkH s3 H3 scope ce fp) [] (wipe σ (own.map (·.2))) H' s' ∧ tn i s'.heap ∧ (∀ b ∈ fp, H' b = none) ∧ W i n H') ?_ m0 ⟨0, H3, I4, st4, nfp, w0⟩
    rintro n s5 ⟨i, H5, I5, st5, n5, w5⟩
    rcases turn i n H5 w5 with ⟨stop, qq⟩ | ⟨go, Nx, hNx, step⟩
    · have td := T.done (X.blkH s3 H3 scope ce fp) rfl rfl rfl hcB i [] s5 _ H5 (fun _ _ => False) I5 (stat I5 n5) st5 stop
      refine thnF td fun r s6 ⟨hr, I6⟩ => ?_
      subst hr
      have I7 : Inv X pins σ H5 s6 := I3.call' (ch := fp) I6.os I6.base I6.hok I6.bare fun b hb => ⟨(f3 b hb).1.2.2.2.1, (f3 b hb).1.2.1, (f3 b hb).1.2.2.2.2.1, (f3 b hb).1.2.2.2.2.2⟩
      have nC : H5 s3.heap.objs.size = none := by
        have z : H5 ce.locals = none := I6.free
        rw [cL] at z
        exact z
      obtain ⟨m, hn, _⟩ := I6.loc
      have hn : s6.heap.Ns ce.locals m := hn
      rw [cL] at hn
      exact hRR D s3.heap.objs.size s6 m H5 I7 qq hn (I3.fpOk (Nat.le_refl _) nC)
    · have ti := T.item (X.blkH s3 H3 scope ce fp) rfl rfl rfl hcB i [] s5 _ H5 (fun _ _ => False) I5 (stat I5 n5) st5 go
      refine thnF ti fun r s6 ⟨u, hr, h6⟩ => ?_
      subst hr
      refine thnF h6 fun _ s7 ⟨x, H7, I7, r7, y7, st7, n7⟩ => ?_
      have I7' := I7.pinned (stat I7 n7) (T.obj _ _ st7)
      refine thnF (pg.run _ s7 _ H7 x u _ I7' r7 (step x H7 y7)) fun _ s8 ⟨σ8, H8, I8, hw8, q8⟩ => ?_
      refine thnF (pt.run _ s8 σ8 H8 _ I8 q8) fun b s9 ⟨H9, I9, q9⟩ => ?_
      have fin : ∀ {s' : Shared} {H' : Hp}, Inv (X.blkH s3 H3 scope ce fp) ([] ++ pinsAt fp s7.heap) σ8 H' s' → Nx H' → ∃ m, m < n ∧ ∃ i H', Inv (X.blkH s3 H3 scope ce fp) [] (wipe σ (own.map (·.2))) H' s' ∧ tn i s'.heap ∧ (∀ b ∈ fp, H' b = none) ∧ W i m H' := fun {s' H'} I' nx => by
        obtain ⟨m', hm, w'⟩ := hNx H' nx
        have pin' : ∀ b ∈ fp, ∀ o, s7.heap.get? b = some o → s'.heap.get? b = some o ∧ H' b = none := fun b hb o e =>
          let z := I'.pin (b, o) (List.mem_append_right _ (List.mem_append_right _ (mem_pinsAt hb e)))
          ⟨z.1, z.2.1⟩
        have hl : (wipe σ (own.map (·.2))).length = σ8.length := by rw [← hw8, wipe_length]
        refine ⟨m', hm, i + 1, H', (I'.unpinned (pins := [])).weak hl (fun j v e => ?_), T.keep _ _ _ st7 fun b hb o e => (pin' b hb o e).1, fun b hb => ?_, w'⟩
        · rw [← hw8] at e
          exact (wipe_some e).1
        · obtain ⟨o, e, _⟩ := T.obj _ _ st7 b hb
          exact (pin' b hb o e).2
      cases b with
      | false =>
        simp only [Bool.false_eq_true, if_false] at q9 ⊢
        exact fin I9 q9
      | true =>
        simp only [if_true] at q9 ⊢
        refine thnF (pe.run _ s9 σ8 H9 _ I9 q9) fun z s10 ⟨yv, H10, I10, r10, acc, hD10, hz10, nx⟩ => ?_
        exact app_ok (X := X.blkH s3 H3 scope ce fp) I10 hD10 hz10 r10 fun s11 I11 => fin I11 nx
  exact codeAny_compStart_list loop (T.self X.A 0 _ _ _ st4 loop)
theorem pe_lcH {elt tg iter : Expr} {ifs : List Expr} {scope : Scope} {own : List (Str × Nat)} {pos : Pos} {wi : TI} {g : TG} {tt : TT} {te : TE} (hc : HotC X) (hN : X.N.Nodup) (hi : PIH X tg iter wi) (ok : BlkOk X.N X.env.scope scope own)
    (hg : ∀ (s : Shared) (H : Hp) (C : Addr) (cl : List (Str × Addr)) (fp : List Addr), PG (X.blkH s H scope (compEnvC scope cl C X.env) fp) tg g) (ht : ∀ (s : Shared) (H : Hp) (C : Addr) (cl : List (Str × Addr)) (fp : List Addr), PTs (X.blkH s H scope (compEnvC scope cl C X.env) fp) ifs tt)
    (he : ∀ (s : Shared) (H : Hp) (C : Addr) (cl : List (Str × Addr)) (fp : List Addr), PE (X.blkH s H scope (compEnvC scope cl C X.env) fp) elt te) (hs : ∀ x, foldedSetIterable iter X.env x = pure x := by intro _; rfl) :
    PE X (.ListComp elt [⟨tg, iter, ifs, 0⟩] scope pos) (tLc wi g tt te (own.map (·.2))) := by
  refine ⟨fun pins s σ H Q I h => ?_⟩
  rw [eval_ListComp]
  refine lc_coreH hc hN I hi ok hg ht he hs h fun D C s' m H' I' q hn f => ⟨m, hn, fun h'' sb => ?_⟩
  obtain ⟨f0, f1, f2, f3, f4, f5⟩ := f
  exact ⟨.ref D, H', I'.turned (t' := s'.toks) (fun b o hb e => (sb.2 b hb).trans e) f0 f1 f3 f4 f5, rfl, q⟩
end
/-! ### defs whose promise tells of the exception at p -/
structure FnHp (P : Program) (w : World) (K : PySem.W.Frag) (mg : Str → Option Value) (base : Heap) (CX : CXT) (k : Nat) (p : Addr × Obj) (f : Addr) (fd : FuncData) (ps : List Str) (sp : Sp) : Prop where
  len : ∀ vs H Q E, sp vs H Q E → vs.length = ps.length
  run : ∀ (A : Around) (outer : List Env) (s : Shared) (H : Hp) (args : Args) (us : List Value) (vs : List V) (Q : VK) (E : XK), RoomH k A → Hot1 A p → PinOk outer H s p → Env0 P w K mg base A outer s H → BindsTo s fd args (ps.zip us) → Vals vs us → sp vs H Q E →
    codeAny (model P w) A (.call (.ref f) args) (CR CX outer P w H s Q E) s
theorem fn_ofHp {CX : CXT} {P : Program} {w : World} {K : PySem.W.Frag} {mg : Str → Option Value} {base : Heap} {k : Nat} {p : Addr × Obj} {f : Addr} {name qual : Str} {params : Arguments} {body : List Stmt} {scope : Scope} {dV kV doc pm cdv ct oc : Value} {an od : Option Addr}
    {osl : Array (Option Value)} {N ps : List Str} {sp : Sp} (lk : K.lookup f = some ⟨oc, od, .func (PySem.W.fnOf name qual params body scope dV kV doc pm an cdv ct), osl⟩) (hcd : PySem.W.codeIn K cdv qual = true) (S : FnScope N ps scope)
    (len : ∀ vs H Q E, sp vs H Q E → vs.length = ps.length)
    (hbody : ∀ (A : Around) (outer : List Env) (s : Shared) (H : Hp) (vs : List V) (Q : VK) (E : XK), Hot1 A p → RoomH k (A.deeper (envOfC qual scope s.heap.objs.size f cdv)) → sp vs H Q E →
      ∃ t, PSs (cxH CX P w K mg base N qual scope f cdv A outer s H E p) body t ∧ t { nx := fun _ H' => Q .non H', rt := Q } (L2.start N vs) H) :
    FnHp P w K mg base CX (k + 1) p f (PySem.W.fnOf name qual params body scope dV kV doc pm an cdv ct) ps sp := by
  refine ⟨len, fun A outer s H args us vs Q E hr hot hpin e0 hb r hsp => ?_⟩
  have KX : K.In s.heap := e0.mod.kin.keeps fun b o e => (e0.bs b o e).1
  have hl := len _ _ _ _ hsp
  refine codeAny_call_function hr.depth (KX _ _ lk) rfl S.co S.gen rfl (PySem.W.codeRec_of KX hcd) (hb _ _ _ _ (wpAny_newFunctionEnv_cells S.kind (fun y hy => ?_) fun env he s1 x => ?_))
  · rcases S.par y.1 (List.of_mem_zip (show (y.1, y.2) ∈ _ from hy)).1 with q | q
    · exact .inl q
    · exact .inr ⟨q, PySem.W.cellsFrom_some _ _ _ (.inl q)⟩
  subst he
  obtain ⟨t, ht, hq⟩ := hbody A outer s H vs Q E hot (hr.deeper _) hsp
  have I := inv_startH (CX := CX) (E := E) S hpin e0 hl r x
  refine ⟨(e0.mod.nolimit.keeps fun b o e => (e0.bs b o e).1 : s.heap.NoLimit).keeps x.toInCall.keep, codeAny_func (wpAny_mono (ht.run [] s1 _ H _ I hq) (fun fl s' hs => ?_) fun _ _ z => z)⟩
  cases fl with
  | ret u =>
    obtain ⟨v, σ', H', J, rv, q⟩ := hs
    exact ⟨v, H', J.os, J.bare, J.base, J.hok, rv, q⟩
  | next =>
    obtain ⟨σ', H', J, q⟩ := hs
    exact ⟨V.non, H', J.os, J.bare, J.base, J.hok, rfl, q⟩
  | brk =>
    obtain ⟨_, _, _, z⟩ := hs
    exact z.elim
  | cont =>
    obtain ⟨_, _, _, z⟩ := hs
    exact z.elim
/-- x(..), p among the pins of the context -/
theorem pe_callHp {X : Cx} {CX : CXT} {k : Nat} {p : Addr × Obj} {f : Addr} {fd : FuncData} {ps : List Str} {sp : Sp} {E : St → XK} {x : Str} {q pos : Pos} {e : Expr} {es : List Expr} {t : TA} (F : FnHp X.prog X.w X.K X.mg X.base CX k p f fd ps sp) (hr : RoomH k X.A) (hot : Hot1 X.A p) (hp : p ∈ X.pn) (hg : Gl X x) (hm : X.mg x = some (.ref f)) (hk : PySem.W.keepIn X.K (.ref f) = true) (hb : Binds X.K fd ps []) (hx : ∀ σ, PassesAt CX X σ (E σ))
    (ha : PA X (e :: es) t) (hdb : (x == ("__debug__" : Str)) = false := by decide) (he : starEach (e :: es) X.env = (false, eval e X.env) :: starEach es X.env := by rfl) (hpl : (backTo pos (starEach es X.env)).any (·.1) = false := by rfl) :
    PE X (.Call (.Name x q) (e :: es) [] pos) (tCallS sp E t) := by
  refine ⟨fun pins s σ H Q I h => wpAny_Call_Name_kw (ld_glob I hg hm ?_ hdb)⟩
  refine PySem.W.callWith_K (h₀ := X.base) I.ok.mod.kin hk (thn (ha.run pos pins s σ H _ I h) fun us s1 ⟨vs, H1, I1, r, w1⟩ => ⟨I1.kIn, ?_⟩) he hpl
  have b := hb s1 us I1.kIn (by rw [List.append_nil, ← r.length]; exact F.len _ _ _ _ w1)
  rw [List.append_nil] at b
  obtain ⟨g1, g2, g3, g4, g5⟩ := I1.pin p (List.mem_append_left _ hp)
  have hpin : PinOk X.stack H1 s1 p := ⟨g1, g2, fun hm => by
    rcases List.mem_cons.mp (I1.stkSub p.1 hm) with z | z
    · exact g3 z
    · exact g4 z, g5⟩
  refine wpAny_call (codeAny_mono (F.run X.A X.stack s1 H1 ⟨us, []⟩ us vs Q (E σ) hr hot hpin I1.env0 b r w1) fun r s' hq => ?_)
  match r, hq with
  | .error e, hq => exact hx σ pins H1 s1 e s' I1 hq
  | .ok (.ret u), hq => exact I1.after hq
  | .ok .next, hq => exact hq.elim
  | .ok .brk, hq => exact hq.elim
  | .ok .cont, hq => exact hq.elim
end L2H
set_option Elab.async false
set_option linter.all false
set_option maxRecDepth 100000
set_option maxHeartbeats 4000000
namespace L2
namespace DL
open PySem PySem.Spec PyProof.Rows
variable {X : Cx} {F : Fm} {g g1 g2 g3 : G} {e a b c : Expr} {es : List Expr} {r s t : Sl} {rs : List Sl} {pos : Pos} {st : Stmt} {rest body : List Stmt} {z : Z} {tg iter : Expr} {ds : List PyData}
/-! ### loops -/
theorem ds_for (I : Nat → G → Prop) (hp : PassesOwn (model X.prog X.w) X.A X.env X.xe) (hc : X.calm = true) (hi : DI X F g tg iter g1 ds) (h0 : I 0 g1)
    (hb : ∀ F' i d gi, ds[i]? = some d → I i gi → ∃ g2 js, DG X F' gi tg (.d d) g2 js ∧ DS X F' g2 body ⟨I (i + 1), z.rt, fun gb => DS X F gb rest z, I (i + 1), z.ex⟩) (hk : ∀ gn, I ds.length gn → DS X F gn rest z)
    (hs : ∀ x, foldedSetIterable iter X.env x = pure x := by intro _; rfl) : DS X F g (.For tg iter body [] pos :: rest) z := DS.mk fun σ H D s zk => by
  refine uS_of (pss_cons (ps_for hp hc pi_s pg_s pss_s hs) pss_s) (hi.run σ H _ s fun J H1 s1 k1 j1 => ?_)
  refine ⟨fun i m σ' H' => m + i = ds.length ∧ ∃ gi, I i gi ∧ Sat X.K ⟨F.S, H1, g1.dom⟩ gi σ' H', ⟨ds.length, by omega, g1, h0, s1.rebase⟩, fun i m σ' H' ⟨hm, gi, Ii, si⟩ => ?_⟩
  have up : Same (F.hd g H1) (hid (F.S ++ gi.dom) H') := by
    have := si.stays
    rw [hd_dom hi.dom] at this
    exact this
  have inT : ∀ a ∈ F.S ++ gi.dom, H' a ≠ none := fun a m => si.hidIn (F := ⟨F.S, H1, g1.dom⟩) m
  by_cases e : i < ds.length
  · obtain ⟨go, yl⟩ := j1.go i H' (F.S ++ gi.dom) ds[i] up inT (List.getElem?_eq_getElem e)
    refine .inr ⟨go, fun σ2 H2 => ∃ gi, I (i + 1) gi ∧ Sat X.K ⟨F.S, H1, g1.dom⟩ gi σ2 H2, fun σ2 H2 ⟨g', I', s'⟩ => ⟨m - 1, by omega, by omega, g', I', s'⟩, fun x H2 hy => ?_⟩
    obtain ⟨e2, x2⟩ := yl x H2 hy
    obtain ⟨gt, js, hg, hbody⟩ := hb ⟨F.S, H1, g1.dom⟩ i ds[i] gi (List.getElem?_eq_getElem e) Ii
    have s2 := si.grow e2
    refine hg.run σ' H2 x _ s2 x2 fun σ3 s3 _ => hbody σ3 H2 _ s3 ?_
    exact ⟨fun g' σ4 H4 q s4 => ⟨g', q, s4⟩, fun g' r σ4 v H4 q s4 k4 => zk.rt g' r σ4 v H4 q (s1.unbase s4) k4, fun g' σ4 H4 q s4 => q σ4 H4 D (s1.unbase s4) zk, fun g' σ4 H4 q s4 => ⟨g', q, s4⟩, fun g' C o σ4 d H4 q s4 k => zk.xx g' C o σ4 d H4 q (s1.unbase s4) k⟩
  · have ei : i = ds.length := by omega
    subst ei
    exact .inl ⟨j1.stop _ H' (F.S ++ gi.dom) up (Nat.le_refl _), hk gi Ii σ' H' D (s1.unbase si) zk⟩
theorem ds_while (I : Nat → G → Prop) (m0 : Nat) (hp : PassesOwn (model X.prog X.w) X.A X.env X.xe) (h0 : I m0 g)
    (hb : ∀ F' m gm, I m gm → ∃ b g', DT X F' gm c g' b ∧ (b = true → DS X F' g' body ⟨fun g => ∃ m', m' < m ∧ I m' g, z.rt, fun gb => DS X F gb rest z, fun g => ∃ m', m' < m ∧ I m' g, z.ex⟩) ∧ (b = false → DS X F g' rest z)) :
    DS X F g (.While c body [] pos :: rest) z := DS.mk fun σ H D s zk => by
  refine uS_of (pss_cons (ps_while hp pt_s pss_s) pss_s) ⟨fun m σ' H' => ∃ gm, I m gm ∧ Sat X.K ⟨F.S, H, g.dom⟩ gm σ' H', ⟨m0, g, h0, s.rebase⟩, fun m σ' H' ⟨gm, Im, sm⟩ => ?_⟩
  obtain ⟨k, g', ht, h1, h2⟩ := hb ⟨F.S, H, g.dom⟩ m gm Im
  refine ht.run σ' H' _ sm fun H2 s2 _ => ?_
  cases k with
  | true =>
    refine ⟨fun σ3 H3 => ∃ m', m' < m ∧ ∃ gm, I m' gm ∧ Sat X.K ⟨F.S, H, g.dom⟩ gm σ3 H3, fun σ3 H3 ⟨m', hm, gm, x, y⟩ => ⟨m', hm, gm, x, y⟩, h1 rfl σ' H2 _ s2 ?_⟩
    exact ⟨fun g' σ4 H4 ⟨m', hm, q⟩ s4 => ⟨m', hm, g', q, s4⟩, fun g' r σ4 v H4 q s4 k4 => zk.rt g' r σ4 v H4 q (s.unbase s4) k4, fun g' σ4 H4 q s4 => q σ4 H4 D (s.unbase s4) zk, fun g' σ4 H4 ⟨m', hm, q⟩ s4 => ⟨m', hm, g', q, s4⟩, fun g' C o σ4 d H4 q s4 k => zk.xx g' C o σ4 d H4 q (s.unbase s4) k⟩
  | false => exact h2 rfl σ' H2 D (s.unbase s2) zk
/-! ### comprehensions -/
/-- the context of the block -/
abbrev Bx (X : Cx) (scope : Scope) (s0 : Shared) (H0 : Hp) (C : Addr) (cl : List (Str × Addr)) (fp : List Addr) : Cx := { X.blk s0 H0 scope (compEnvC scope cl C X.env) fp with pn := cond X.calm [] X.pn }
theorem bx_calm {scope : Scope} {s0 : Shared} {H0 : Hp} {C : Addr} {cl : List (Str × Addr)} {fp : List Addr} (h : X.calm = true) : Bx X scope s0 H0 C cl fp = X.blk s0 H0 scope (compEnvC scope cl C X.env) fp := by
  show ({ X.blk s0 H0 scope (compEnvC scope cl C X.env) fp with pn := cond X.calm [] X.pn } : Cx) = _
  rw [h]
  rfl
theorem bx_hot {scope : Scope} {s0 : Shared} {H0 : Hp} {C : Addr} {cl : List (Str × Addr)} {fp : List Addr} (h : X.calm = false) : Bx X scope s0 H0 C cl fp = X.blkH s0 H0 scope (compEnvC scope cl C X.env) fp := by
  show ({ X.blk s0 H0 scope (compEnvC scope cl C X.env) fp with pn := cond X.calm [] X.pn } : Cx) = _
  rw [h]
  rfl
/-- what is walked, by its reading -/
structure DIw (X : Cx) (F : Fm) (g : G) (wi : TI) (g' : G) (ds : List PyData) : Prop where
  dom : g'.dom = g.dom
  run : ∀ σ H (R : It → Hp → Prop), Sat X.K F g σ H → (∀ J H', Sat X.K F g' σ H' → Same (F.hd g H) (F.hd g H') → JOk X.K J (F.hd g H') ds → R J H') → wi σ H R
theorem DI.w (h : DI X F g tg iter g1 ds) : DIw X F g (iS X tg iter) g1 ds := ⟨h.dom, h.run⟩
def wipeS (sl : List Sl) : List Nat → List Sl
  | [] => sl
  | v :: vs => (wipeS sl vs).set v .u
theorem wipe_ok {K : PySem.W.Frag} {Hd : Hp} {σ : St} {sl : List Sl} (h : Paired (SlOk K Hd) σ sl) : ∀ vs : List Nat, Paired (SlOk K Hd) (wipe σ vs) (wipeS sl vs)
  | [] => h
  | v :: vs => paired_set trivial v (wipe_ok h vs)
def psS (X : Cx) (ifs : List Expr) : TT := fun σ H Q => ∀ pins s, Inv X pins σ H s →
    wpAny (model X.prog X.w) X.A (forIn ifs true fun c r => if r = true then do let ok ← isTrue c X.env (eval c X.env); pure (ForInStep.yield ok) else pure (ForInStep.yield r)) (TP X pins σ Q) X.xe s
theorem pts_s {ifs : List Expr} : PTs X ifs (psS X ifs) := ⟨fun pins s _ _ _ I h => h pins s I⟩
structure DTs (X : Cx) (F : Fm) (g : G) (ifs : List Expr) (g' : G) (b : Bool) : Prop where
  dom : g'.dom = g.dom
  run : ∀ σ H (Q : Bool → Hp → Prop), Sat X.K F g σ H → (∀ H', Sat X.K F g' σ H' → Same (F.hd g H) (F.hd g H') → Q b H') → psS X ifs σ H Q
theorem dts_nil : DTs X F g [] g true := ⟨rfl, fun σ H Q s q pins s' I => pts_nil.run pins s' σ H Q I (q H s (Same.refl _))⟩
theorem dts_one {k : Bool} (h : DT X F g c g1 k) : DTs X F g [c] g1 k := ⟨h.dom, fun σ H Q s q pins s' I => (pts_one pt_s).run pins s' σ H Q I (h.run σ H Q s q)⟩
/-- what one turn of a comprehension does -/
structure LcStep (X : Cx) (scope : Scope) (sl : List Sl) (vs : List Nat) (tg elt : Expr) (ifs : List Expr) (ow ow' : List (Addr × OD)) (d : PyData) (acc acc' : List PyData) : Prop where
  ex : ∃ g2 js g3 b, (∀ s0 H0 C cl fp F', DG (Bx X scope s0 H0 C cl fp) F' ⟨wipeS sl vs, ow⟩ tg (.d d) g2 js) ∧ (∀ j ∈ js, j ∈ vs) ∧ (∀ s0 H0 C cl fp F', DTs (Bx X scope s0 H0 C cl fp) F' g2 ifs g3 b) ∧
    (b = true → ∃ y g4, (∀ s0 H0 C cl fp F', DE (Bx X scope s0 H0 C cl fp) F' g3 elt g4 (.d y)) ∧ g4.ow = ow' ∧ acc' = acc ++ [y]) ∧ (b = false → g3.ow = ow' ∧ acc' = acc)
def lcG (X : Cx) (scope : Scope) (tg : Expr) : TG := fun v σ H Q => ∀ s0 H0 C cl fp, gS (Bx X scope s0 H0 C cl fp) tg v σ H Q
def lcT (X : Cx) (scope : Scope) (ifs : List Expr) : TT := fun σ H Q => ∀ s0 H0 C cl fp, psS (Bx X scope s0 H0 C cl fp) ifs σ H Q
def lcE (X : Cx) (scope : Scope) (elt : Expr) : TE := fun σ H Q => ∀ s0 H0 C cl fp, eS (Bx X scope s0 H0 C cl fp) elt σ H Q
theorem lcG_ok {scope : Scope} {s0 : Shared} {H0 : Hp} {C : Addr} {cl : List (Str × Addr)} {fp : List Addr} : PG (Bx X scope s0 H0 C cl fp) tg (lcG X scope tg) := ⟨fun pins s _ _ _ u _ I r h => h s0 H0 C cl fp pins s u I r⟩
theorem lcT_ok {scope : Scope} {s0 : Shared} {H0 : Hp} {C : Addr} {cl : List (Str × Addr)} {fp : List Addr} {ifs : List Expr} : PTs (Bx X scope s0 H0 C cl fp) ifs (lcT X scope ifs) := ⟨fun pins s _ _ _ I h => h s0 H0 C cl fp pins s I⟩
theorem lcE_ok {scope : Scope} {s0 : Shared} {H0 : Hp} {C : Addr} {cl : List (Str × Addr)} {fp : List Addr} {elt : Expr} : PE (Bx X scope s0 H0 C cl fp) elt (lcE X scope elt) := ⟨fun pins s _ _ _ I h => h s0 H0 C cl fp pins s I⟩
def iSH (X : Cx) (tg iter : Expr) : TI := fun σ H R => ∀ pins s, Inv X pins σ H s → wpAny (model X.prog X.w) X.A (eval iter X.env) (fun v s1 => wpAny (model X.prog X.w) X.A (pyIter v) (L2H.PIEH X pins σ tg R) X.xe s1) X.xe s
theorem pi_sH {tg iter : Expr} : L2H.PIH X tg iter (iSH X tg iter) := ⟨fun pins s _ _ _ I h => h pins s I⟩
theorem lc_core2 {wi : TI} {elt : Expr} {ifs : List Expr} {scope : Scope} {own : List (Str × Nat)} (acc : Nat → List PyData) (ow : Nat → List (Addr × OD)) (hi : DIw X F g wi g1 ds) (h0 : acc 0 = []) (w0 : ow 0 = g1.ow) (wd : ∀ i, i ≤ ds.length → (ow i).map (·.1) = g1.dom) (hz : ds.length ≤ 100000)
    (step : ∀ i d, ds[i]? = some d → LcStep X scope g1.sl (own.map (·.2)) tg elt ifs (ow i) (ow (i + 1)) d (acc i) (acc (i + 1))) {σ : St} {H : Hp} {Q : VK} (s : Sat X.K F g σ H)
    (q : ∀ p H', p ∉ F.M → p ∉ F.S ++ g.dom → F.H0 p = none → Sat X.K F ⟨g1.sl, ow ds.length ++ [(p, .lst ((acc ds.length).map .d))]⟩ σ H' → Same (F.hd g H) (hid (p :: (F.S ++ g.dom)) H') → Q (.ref p) H') :
    tLc wi (lcG X scope tg) (lcT X scope ifs) (lcE X scope elt) (own.map (·.2)) σ H Q := by
  refine hi.run σ H _ s fun J H1 s1 k1 j1 D nD => ?_
  have accz : ∀ i, i ≤ ds.length → (acc i).length ≤ i := fun i => by
    induction i with
    | zero => intro _; rw [h0]; exact Nat.le_refl _
    | succ i ih =>
      intro hl
      have e : i < ds.length := by omega
      obtain ⟨g2, js, g3, b, _, _, _, h1, h2⟩ := (step i ds[i] (List.getElem?_eq_getElem e)).ex
      cases b with
      | true =>
        obtain ⟨y, g4, _, _, e4⟩ := h1 rfl
        rw [e4, List.length_append]
        have := ih (by omega)
        simp
        omega
      | false =>
        rw [(h2 rfl).2]
        have := ih (by omega)
        omega
  have hDM : D ∉ F.M := s1.newM nD
  have hDS : D ∉ F.S ++ g.dom := fun m => s1.newOut nD (by rw [hi.dom]; exact m)
  have hD0 : F.H0 D = none := s1.fresh0 nD
  have domD : ∀ i, i ≤ ds.length → G.dom ⟨g1.sl, ow i ++ [(D, OD.lst ((acc i).map .d))]⟩ = g.dom ++ [D] := fun i hl => by
    show (ow i ++ [(D, OD.lst ((acc i).map .d))]).map (·.1) = _
    rw [List.map_append, wd i hl, hi.dom]
    rfl
  refine ⟨fun i m H' => m + i = ds.length ∧ Sat X.K F ⟨g1.sl, ow i ++ [(D, .lst ((acc i).map .d))]⟩ σ H' ∧ Same (F.hd g H1) (hid (D :: (F.S ++ g.dom)) H'), ⟨ds.length, by omega, ?_, ?_⟩, fun i m H' ⟨hm, si, ki⟩ => ?_⟩
  · rw [h0, w0]
    exact s1.newOwn nD ⟨[], rfl, .nil⟩
  · exact hid_mono (same_new nD) fun a m => by
      rcases List.mem_cons.mp m with m | m
      · exact .inr (m ▸ nD)
      · exact .inl m
  have up : Same (F.hd g H1) (hid (D :: (F.S ++ g.dom)) H') := ki
  have hl : i ≤ ds.length := by omega
  have inT : ∀ a ∈ D :: (F.S ++ g.dom), H' a ≠ none := fun a m => by
    refine si.hidIn (F := F) ?_
    rw [domD i hl]
    rcases List.mem_cons.mp m with m | m
    · exact List.mem_append_right _ (List.mem_append_right _ (by simp [m]))
    · rcases List.mem_append.mp m with m | m
      · exact List.mem_append_left _ m
      · exact List.mem_append_right _ (List.mem_append_left _ m)
  by_cases e : i < ds.length
  · obtain ⟨go, yl⟩ := j1.go i H' (D :: (F.S ++ g.dom)) ds[i] up inT (List.getElem?_eq_getElem e)
    refine .inr ⟨go, fun H2 => Sat X.K F ⟨g1.sl, ow (i + 1) ++ [(D, .lst ((acc (i + 1)).map .d))]⟩ σ H2 ∧ Same (F.hd g H1) (hid (D :: (F.S ++ g.dom)) H2), fun H2 h2 => ⟨m - 1, by omega, by omega, h2.1, h2.2⟩, fun x H2 hy => ?_⟩
    obtain ⟨e2, x2⟩ := yl x H2 hy
    obtain ⟨g2, js, g3, b, hg, hj, ht, hb1, hb2⟩ := (step i ds[i] (List.getElem?_eq_getElem e)).ex
    have s2 := si.grow e2
    have k2 : Same (F.hd g H1) (hid (D :: (F.S ++ g.dom)) H2) := ki.trans (hid_same e2)
    -- the frame of the turn
    have hidE : ∀ Hx : Hp, hid ((F.S ++ [D]) ++ (ow i).map (·.1)) Hx = hid (D :: (F.S ++ g.dom)) Hx := fun Hx => by
      funext y
      unfold hid
      rw [wd i hl, hi.dom]
      by_cases hy : y ∈ D :: (F.S ++ g.dom)
      · rw [if_pos hy, if_pos (by simp at hy ⊢; rcases hy with h | h | h <;> simp [h])]
      · rw [if_neg hy, if_neg (by simp at hy ⊢; exact ⟨hy.2.1, hy.1, hy.2.2⟩)]
    have hidE2 : ∀ Hx : Hp, ∀ i, i ≤ ds.length → F.hd ⟨g1.sl, ow i ++ [(D, OD.lst ((acc i).map .d))]⟩ Hx = hid (D :: (F.S ++ g.dom)) Hx := fun Hx i hl => by
      show hid (F.S ++ G.dom ⟨g1.sl, ow i ++ [(D, OD.lst ((acc i).map .d))]⟩) Hx = _
      rw [domD i hl]
      funext y
      unfold hid
      by_cases hy : y ∈ D :: (F.S ++ g.dom)
      · rw [if_pos hy, if_pos (by simp at hy ⊢; rcases hy with h | h | h <;> simp [h])]
      · rw [if_neg hy, if_neg (by simp at hy ⊢; exact ⟨hy.2.1, hy.2.2, hy.1⟩)]
    have hMi : ∀ a ∈ (ow i).map (·.1), H2 a ≠ none := fun a m => s2.owIn (by rw [domD i hl, ← hi.dom, ← wd i hl]; exact List.mem_append_left _ m)
    have nDi : D ∉ (ow i).map (·.1) := fun m => hDS (List.mem_append_right _ (by rw [← hi.dom, ← wd i hl]; exact m))
    have sF : Sat X.K ⟨F.S ++ [D], H2, (ow i).map (·.1)⟩ ⟨wipeS g1.sl (own.map (·.2)), ow i⟩ (wipe σ (own.map (·.2))) H2 := by
      refine ⟨?_, fun p hp => ?_, ?_, fun _ _ q' _ => q', fun a m => .inr m, fun a m => ?_, hMi⟩
      · refine wipe_ok ?_ _
        have := s2.sl
        rw [hidE2 H2 i hl] at this
        show Paired (SlOk X.K (hid ((F.S ++ [D]) ++ (ow i).map (·.1)) H2)) σ g1.sl
        rw [hidE]
        exact this
      · obtain ⟨o, o1, o2⟩ := s2.ow p (List.mem_append_left _ hp)
        rw [hidE2 H2 i hl] at o2
        refine ⟨o, o1, ?_⟩
        show ODok X.K (hid ((F.S ++ [D]) ++ (ow i).map (·.1)) H2) o p.2
        rw [hidE]
        exact o2
      · show ((ow i).map (·.1)).Nodup
        rw [wd i hl]
        exact s1.nd
      · rcases List.mem_append.mp m with m | m
        · exact ⟨s2.sIn m, fun y => s1.apart m (by rw [← wd i hl]; exact y)⟩
        · rw [List.mem_singleton] at m
          subst m
          exact ⟨s2.owIn (by rw [domD i hl]; simp), nDi⟩
    -- the target, the tests, the element
    refine fun s0 H0 C cl fp => (hg s0 H0 C cl fp ⟨F.S ++ [D], H2, (ow i).map (·.1)⟩).run _ H2 x _ sF (by
      show SlOk X.K (hid ((F.S ++ [D]) ++ (ow i).map (·.1)) H2) (some x) _
      rw [hidE]
      exact x2) fun σ3 s3 b3 => ⟨(b3 _ hj).trans (wipe_wipe _ _), ?_⟩
    refine fun s0 H0 C cl fp => (ht s0 H0 C cl fp ⟨F.S ++ [D], H2, (ow i).map (·.1)⟩).run σ3 H2 _ s3 fun H4 s4 k4 => ?_
    -- what stands behind the turn
    have back : ∀ {g' : G} {H5 : Hp} {σ5 : St}, Sat X.K ⟨F.S ++ [D], H2, (ow i).map (·.1)⟩ g' σ5 H5 → g'.ow = ow (i + 1) → ∀ (o : HO), ODok X.K (hid (D :: (F.S ++ g.dom)) H5) o (.lst ((acc (i + 1)).map .d)) → ∀ H6, (∀ b u, b ≠ D → H5 b = some u → H6 b = some u) → H6 D = some o →
        Sat X.K F ⟨g1.sl, ow (i + 1) ++ [(D, .lst ((acc (i + 1)).map .d))]⟩ σ H6 ∧ Same (F.hd g H1) (hid (D :: (F.S ++ g.dom)) H6) := fun {g' H5 σ5} s5 eo o ho H6 k6 h6 => by
      have hl1 : i + 1 ≤ ds.length := e
      have kp : ∀ b u, b ∉ (ow i).map (·.1) → b ≠ D → H2 b = some u → H6 b = some u := fun b u m n' q' => k6 b u n' (s5.ex b u q' m)
      have same26 : Same (hid (D :: (F.S ++ g.dom)) H2) (hid (D :: (F.S ++ g.dom)) H6) := fun b u q' => by
        obtain ⟨m, q'⟩ := hid_some q'
        simp only [List.mem_cons, List.mem_append, not_or] at m
        exact hid_of (by simp only [List.mem_cons, List.mem_append, not_or]; exact m) (kp b u (by rw [wd i hl, hi.dom]; exact m.2.2) m.1 q')
      have same56 : Same (hid (D :: (F.S ++ g.dom)) H5) (hid (D :: (F.S ++ g.dom)) H6) := fun b u q' => by
        obtain ⟨m, q'⟩ := hid_some q'
        exact hid_of m (k6 b u (fun z => m (by rw [z]; exact List.mem_cons_self)) q')
      refine ⟨⟨?_, fun p hp => ?_, ?_, fun b u q' m => ?_, fun a m => ?_, s1.sH, fun a m => ?_⟩, k2.trans same26⟩
      · rw [hidE2 H6 (i + 1) hl1]
        have := s2.sl
        rw [hidE2 H2 i hl] at this
        exact paired_mono (fun _ _ w' => slOk_mono same26 w') this
      · rw [hidE2 H6 (i + 1) hl1]
        rcases List.mem_append.mp hp with hp | hp
        · obtain ⟨u, u1, u2⟩ := s5.ow p (by rw [eo]; exact hp)
          have pn : p.1 ≠ D := fun w' => hDS (List.mem_append_right _ (by rw [← hi.dom, ← wd (i + 1) hl1, ← w']; exact List.mem_map.mpr ⟨p, hp, rfl⟩))
          refine ⟨u, k6 _ _ pn u1, odOk_mono same56 ?_⟩
          have : hid ((F.S ++ [D]) ++ g'.dom) H5 = hid (D :: (F.S ++ g.dom)) H5 := by
            rw [← hidE H5, show g'.dom = (ow i).map (·.1) by show g'.ow.map _ = _; rw [eo, wd _ hl1, wd i hl]]
          rw [← this]
          exact u2
        · rw [List.mem_singleton] at hp
          subst hp
          exact ⟨o, h6, odOk_mono same56 ho⟩
      · rw [domD (i + 1) hl1]
        have := s2.nd
        rw [domD i hl] at this
        exact this
      · have q2 := s2.ex b u q' m
        refine kp b u (fun w' => ?_) (fun w' => by rw [w', hD0] at q'; cases q') q2
        rcases s1.fr b (by rw [← wd i hl]; exact w') with y | y
        · rw [y] at q'; cases q'
        · exact m y
      · exact s2.fr a (by rw [domD i hl]; rw [domD (i + 1) hl1] at m; exact m)
      · by_cases w' : a ∈ (ow i).map (·.1)
        · have h5 := s5.mH a w'
          cases q5 : H5 a with
          | none => exact absurd q5 h5
          | some u => rw [k6 a u (fun w'' => hDM (w'' ▸ m)) q5]; simp
        · cases q5 : H2 a with
          | none => exact absurd q5 (s2.mH a m)
          | some u => rw [kp a u w' (fun w'' => hDM (w'' ▸ m)) q5]; simp
    have hD2 : ∃ vs, H2 D = some (.lst vs) ∧ DtAll X.K (hid (D :: (F.S ++ g.dom)) H2) vs (acc i) := by
      obtain ⟨o, o1, vs, rfl, o2⟩ := s2.ow (D, .lst ((acc i).map .d)) (by simp)
      rw [hidE2 H2 i hl] at o2
      exact ⟨vs, o1, dp_of_paired o2⟩
    obtain ⟨vs, hD2, aD⟩ := hD2
    cases b with
    | true =>
      obtain ⟨y, g4, he, eo, ea⟩ := hb1 rfl
      refine fun s0 H0 C cl fp => (he s0 H0 C cl fp ⟨F.S ++ [D], H2, (ow i).map (·.1)⟩).run σ3 H4 _ s4 fun v H5 s5 k5 x5 => ?_
      have hD5 : H5 D = some (.lst vs) := s5.ex D _ hD2 nDi
      refine ⟨vs, hD5, by rw [dpAll_length aD]; exact Nat.lt_of_le_of_lt (accz i hl) (Nat.lt_of_lt_of_le (Nat.lt_of_lt_of_le e hz) (by decide)), ?_⟩
      have dms : hid ((F.S ++ [D]) ++ g3.dom) H5 = hid (D :: (F.S ++ g.dom)) H5 := by
        rw [← hidE H5]
        have : g3.dom = (ow i).map (·.1) := by
          rw [(ht s0 H0 C cl fp ⟨F.S ++ [D], H2, (ow i).map (·.1)⟩).dom]
          show g2.ow.map _ = _
          rw [(hg s0 H0 C cl fp ⟨F.S ++ [D], H2, (ow i).map (·.1)⟩).ow]
        rw [this]
      have x5' : Dt X.K (hid (D :: (F.S ++ g.dom)) H5) v y := by
        rw [← dms]; exact x5
      have aD5 : DtAll X.K (hid (D :: (F.S ++ g.dom)) H5) vs (acc i) := by
        refine dpAll_mono (fun b u q' => ?_) aD
        obtain ⟨m, q'⟩ := hid_some q'
        refine hid_of m (s5.ex b u q' fun w' => m ?_)
        rw [show (ow i).map (·.1) = g.dom by rw [wd i hl, hi.dom]] at w'
        exact List.mem_cons_of_mem _ (List.mem_append_right _ w')
      have ok : ODok X.K (hid (D :: (F.S ++ g.dom)) H5) (.lst (vs ++ [v])) (.lst ((acc (i + 1)).map .d)) := ⟨_, rfl, by
        rw [ea]
        exact paired_of_dp (dpAll_append aD5 (.cons x5' .nil))⟩
      exact back s5 eo _ ok _ (fun b u n' q' => by rw [upd_ne n']; exact q') upd_same
    | false =>
      obtain ⟨eo, ea⟩ := hb2 rfl
      have hD4 : H4 D = some (.lst vs) := s4.ex D _ hD2 nDi
      have aD4 : DtAll X.K (hid (D :: (F.S ++ g.dom)) H4) vs (acc i) := by
        refine dpAll_mono (fun b u q' => ?_) aD
        obtain ⟨m, q'⟩ := hid_some q'
        refine hid_of m (s4.ex b u q' fun w' => m ?_)
        rw [show (ow i).map (·.1) = g.dom by rw [wd i hl, hi.dom]] at w'
        exact List.mem_cons_of_mem _ (List.mem_append_right _ w')
      exact back s4 eo (.lst vs) ⟨vs, rfl, by rw [ea]; exact paired_of_dp aD4⟩ H4 (fun b u _ q' => q') hD4
  · have ei : i = ds.length := by omega
    subst ei
    exact .inl ⟨j1.stop _ H' (D :: (F.S ++ g.dom)) up (Nat.le_refl _), q D H' hDM hDS hD0 si (k1.trans ki)⟩
theorem dn_lc {elt : Expr} {ifs : List Expr} {scope : Scope} {own : List (Str × Nat)} (acc : Nat → List PyData) (ow : Nat → List (Addr × OD)) (nd : X.N.Nodup) (hi : DI X F g tg iter g1 ds) (h0 : acc 0 = []) (w0 : ow 0 = g1.ow) (wd : ∀ i, i ≤ ds.length → (ow i).map (·.1) = g1.dom) (hz : ds.length ≤ 100000)
    (step : ∀ i d, ds[i]? = some d → LcStep X scope g1.sl (own.map (·.2)) tg elt ifs (ow i) (ow (i + 1)) d (acc i) (acc (i + 1))) (ok : BlkOk X.N X.env.scope scope own) (hc : X.calm = true := by rfl) (hs : ∀ x, foldedSetIterable iter X.env x = pure x := by intro _; rfl) :
    DN X F g (.ListComp elt [⟨tg, iter, ifs, 0⟩] scope pos) ⟨g1.sl, ow ds.length⟩ (.lst ((acc ds.length).map .d)) :=
  ⟨by show (ow ds.length).map (·.1) = _; rw [wd _ (Nat.le_refl _), hi.dom], fun σ H Q s q => eS_of (pe_lc (g := lcG X scope tg) (tt := lcT X scope ifs) (te := lcE X scope elt) hc nd pi_s ok (fun s0 H0 C cl fp => bx_calm hc ▸ lcG_ok) (fun s0 H0 C cl fp => bx_calm hc ▸ lcT_ok) (fun s0 H0 C cl fp => bx_calm hc ▸ lcE_ok) hs)
    (lc_core2 acc ow hi.w h0 w0 wd hz step s q)⟩
/-- .. while an exception is handled -/
theorem dn_lcH {elt : Expr} {ifs : List Expr} {scope : Scope} {own : List (Str × Nat)} (acc : Nat → List PyData) (ow : Nat → List (Addr × OD)) (nd : X.N.Nodup) (hi : DIw X F g (iSH X tg iter) g1 ds) (h0 : acc 0 = []) (w0 : ow 0 = g1.ow) (wd : ∀ i, i ≤ ds.length → (ow i).map (·.1) = g1.dom) (hz : ds.length ≤ 100000)
    (step : ∀ i d, ds[i]? = some d → LcStep X scope g1.sl (own.map (·.2)) tg elt ifs (ow i) (ow (i + 1)) d (acc i) (acc (i + 1))) (ok : BlkOk X.N X.env.scope scope own) (hot : L2H.HotC X) (hc : X.calm = false := by rfl) (hs : ∀ x, foldedSetIterable iter X.env x = pure x := by intro _; rfl) :
    DN X F g (.ListComp elt [⟨tg, iter, ifs, 0⟩] scope pos) ⟨g1.sl, ow ds.length⟩ (.lst ((acc ds.length).map .d)) :=
  ⟨by show (ow ds.length).map (·.1) = _; rw [wd _ (Nat.le_refl _), hi.dom], fun σ H Q s q => eS_of (L2H.pe_lcH (g := lcG X scope tg) (tt := lcT X scope ifs) (te := lcE X scope elt) hot nd pi_sH ok (fun s0 H0 C cl fp => bx_hot hc ▸ lcG_ok) (fun s0 H0 C cl fp => bx_hot hc ▸ lcT_ok) (fun s0 H0 C cl fp => bx_hot hc ▸ lcE_ok) hs)
    (lc_core2 acc ow hi h0 w0 wd hz step s q)⟩
/-- x = [..] -/
theorem ds_newLc (i : Nat) {x : Str} {p2 cpos : Pos} {elt : Expr} {ifs : List Expr} {scope : Scope} {own : List (Str × Nat)} (acc : Nat → List PyData) (ow : Nat → List (Addr × OD)) (nd : X.N.Nodup) (hi : DI X F g tg iter g1 ds) (h0 : acc 0 = []) (w0 : ow 0 = g1.ow) (wd : ∀ i, i ≤ ds.length → (ow i).map (·.1) = g1.dom) (hz : ds.length ≤ 100000)
    (step : ∀ i d, ds[i]? = some d → LcStep X scope g1.sl (own.map (·.2)) tg elt ifs (ow i) (ow (i + 1)) d (acc i) (acc (i + 1))) (ok : BlkOk X.N X.env.scope scope own)
    (k : ∀ p, p ∉ F.M → p ∉ F.S ++ g.dom → DS X F ⟨g1.sl.set i (.v (.ref p)), ow ds.length ++ [(p, .lst ((acc ds.length).map .d))]⟩ rest z)
    (hsw : swapsWith (.ListComp elt [⟨tg, iter, ifs, 0⟩] scope cpos) (some (.Name x p2)) pos.line X.env = pure true) (hN : X.N[i]? = some x := by rfl) (hy : X.env.scope.names.lookup x = some .local := by rfl) (hc : X.calm = true := by rfl) (hs : ∀ x, foldedSetIterable iter X.env x = pure x := by intro _; rfl) :
    DS X F g (.Assign [.Name x p2] (.ListComp elt [⟨tg, iter, ifs, 0⟩] scope cpos) pos :: rest) z := DS.mk fun σ H D s zk =>
  uS_of (pss_cons (ps_setLc (g := lcG X scope tg) (tt := lcT X scope ifs) (te := lcE X scope elt) hc nd hN hy hsw pi_s ok (fun s0 H0 C cl fp => bx_calm hc ▸ lcG_ok) (fun s0 H0 C cl fp => bx_calm hc ▸ lcT_ok) (fun s0 H0 C cl fp => bx_calm hc ▸ lcE_ok) hs) pss_s)
    (lc_core2 (Q := fun x H1 => uS X rest D (σ.set i (some x)) H1) acc ow hi.w h0 w0 wd hz step s fun p H1 hM hn h0' s1 k1 => k p hM hn _ H1 D (Sat.setSl (g := ⟨g1.sl, ow ds.length ++ [(p, .lst ((acc ds.length).map .d))]⟩) (r := .v (.ref p)) s1 rfl) zk)
end DL
end L2
set_option Elab.async false
set_option linter.all false
set_option maxRecDepth 100000
set_option maxHeartbeats 4000000
namespace L2
namespace DL
open PySem PySem.Spec PyProof.Rows
/-! ### a def keeps its promise -/
section
variable {P : Program} {w : World} {K : PySem.W.Frag} {mg : Str → Option Value} {base : Heap}
/-- the context of a def's body -/
abbrev Xc (P : Program) (w : World) (K : PySem.W.Frag) (mg : Str → Option Value) (base : Heap) (N : List Str) (qual : Str) (sc : Scope) (f : Addr) (cdv : Value) (A : Around) (outer : List Env) (s : Shared) (H : Hp) (E : XK) : Cx := (cxOf CX0 P w K mg base N qual sc f cdv A outer s H E).nox
def sl0 (n : Nat) (ss : List Sl) : List Sl := ss ++ List.replicate (n - ss.length) .u
theorem start_ok {Hd : Hp} {N : List Str} {vs : List V} {ss : List Sl} (h : Paired (ItOk K Hd) vs ss) : Paired (SlOk K Hd) (start N vs) (sl0 N.length ss) := by
  unfold start sl0
  rw [paired_length h]
  refine paired_append ?_ ?_
  · induction h with
    | nil => exact .nil
    | cons a _ ih => exact .cons a ih
  · generalize N.length - ss.length = n
    induction n with
    | zero => exact .nil
    | succ n ih => exact .cons trivial ih
theorem okP {x qual : Str} {st : Stmt} {f : Addr} {fd : FuncData} {N ps : List Str} {k : Nat} {R : List PyData → PyData → Prop} (Fn : Fun K x qual st f fd) (S : FnScope N ps (defScope st)) (hl : ∀ ds d, R ds d → ds.length = ps.length)
    (h : ∀ f cdv A outer s H E, Room k (A.deeper (envOfC qual (defScope st) s.heap.objs.size f cdv)) → ∀ F ds d, F.M = [] → R ds d →
      DS (Xc P w K mg base N qual (defScope st) f cdv A outer s H E) F ⟨sl0 N.length (ds.map .d), []⟩ (defBody st) ⟨fun _ => d = .none, fun _ r => r = .d d, fun _ => False, fun _ => False, fun _ _ _ => False⟩) :
    FnOk P w K mg base CX0 (k + 1) f fd ps (spP K R) := by
  refine Fn.ok S (fun vs H Q E ⟨Sx, ds, d, _, hd, hR, _⟩ => by rw [dpAll_length hd]; exact hl ds d hR) (fun cdv A outer s H vs Q E hr ⟨Sx, ds, d, hS, hd, hR, q⟩ => ?_)
  refine ⟨_, pss_s, h f cdv A outer s H E hr ⟨Sx, H, []⟩ ds d rfl hR _ H _ ?_ ?_⟩
  · refine ⟨start_ok ?_, fun p hp => absurd hp (by simp), List.nodup_nil, fun b o e _ => e, fun a m => absurd m (by simp), fun a m => ⟨hS a m, by simp⟩, fun a m => absurd m (by simp)⟩
    show Paired (ItOk K (hid (Sx ++ []) H)) vs (ds.map .d)
    rw [List.append_nil]
    exact paired_of_dp hd
  · refine ⟨fun g σ H' e s' => q _ _ (fun b o e' => s'.ex b o e' (by simp)) (by rw [e]; exact Dt.non), fun g r σ v H' e s' k' => ?_, fun _ _ _ h => h.elim, fun _ _ _ h => h.elim, fun _ _ _ _ _ _ h => h.elim⟩
    rw [e] at k'
    have k'' : Dt K (hid (Sx ++ g.dom) H') v d := k'
    exact q v H' (fun b o e' => s'.ex b o e' (by simp)) (dp_mono (hid_less fun a m => List.mem_append_left _ m) k'')
theorem okN {x qual : Str} {st : Stmt} {f : Addr} {fd : FuncData} {N ps : List Str} {k : Nat} {R : List PyData → List PyData → Prop} (Fn : Fun K x qual st f fd) (S : FnScope N ps (defScope st)) (hl : ∀ ds d, R ds d → ds.length = ps.length)
    (h : ∀ f cdv A outer s H E, Room k (A.deeper (envOfC qual (defScope st) s.heap.objs.size f cdv)) → ∀ F ds es, F.M = [] → R ds es →
      DS (Xc P w K mg base N qual (defScope st) f cdv A outer s H E) F ⟨sl0 N.length (ds.map .d), []⟩ (defBody st) ⟨fun _ => False, fun g r => ∃ (p : Addr) (j : Nat), r = .v (.ref p) ∧ g.ow[j]? = some (p, OD.lst (es.map .d)), fun _ => False, fun _ => False, fun _ _ _ => False⟩) :
    FnOk P w K mg base CX0 (k + 1) f fd ps (spN K R) := by
  refine Fn.ok S (fun vs H Q E ⟨Sx, ds, d, _, hd, hR, _⟩ => by rw [dpAll_length hd]; exact hl ds d hR) (fun cdv A outer s H vs Q E hr ⟨Sx, ds, d, hS, hd, hR, q⟩ => ?_)
  refine ⟨_, pss_s, h f cdv A outer s H E hr ⟨Sx, H, []⟩ ds d rfl hR _ H _ ?_ ?_⟩
  · refine ⟨start_ok ?_, fun p hp => absurd hp (by simp), List.nodup_nil, fun b o e _ => e, fun a m => absurd m (by simp), fun a m => ⟨hS a m, by simp⟩, fun a m => absurd m (by simp)⟩
    show Paired (ItOk K (hid (Sx ++ []) H)) vs (ds.map .d)
    rw [List.append_nil]
    exact paired_of_dp hd
  · refine ⟨fun g σ H' e s' => e.elim, fun g r σ v H' ⟨p, j, e, hj⟩ s' k' => ?_, fun _ _ _ h => h.elim, fun _ _ _ h => h.elim, fun _ _ _ _ _ _ h => h.elim⟩
    subst e
    have e : some v = some (V.ref p) := k'
    cases e
    obtain ⟨o, o1, ws, rfl, o2⟩ := s'.own hj
    refine q p ws H' ?_ (fun b o e' => s'.ex b o e' (by simp)) o1 (dpAll_mono (hid_less fun a m => ?_) (dp_of_paired o2))
    · rcases s'.fr p (mem_dom hj) with y | y
      · exact y
      · simp at y
    · rcases List.mem_cons.mp m with m | m
      · exact List.mem_append_right _ (m ▸ mem_dom hj)
      · exact List.mem_append_left _ m
theorem okM {x qual : Str} {st : Stmt} {f : Addr} {fd : FuncData} {N ps : List Str} {k : Nat} {R : List Int → List PyData → List Int → PyData → Prop} (Fn : Fun K x qual st f fd) (S : FnScope N ps (defScope st)) (hl : ∀ l ds l' d, R l ds l' d → ds.length + 1 = ps.length)
    (h : ∀ f cdv A outer s H E, Room k (A.deeper (envOfC qual (defScope st) s.heap.objs.size f cdv)) → ∀ F p l ds l' d, R l ds l' d →
      DS (Xc P w K mg base N qual (defScope st) f cdv A outer s H E) F ⟨sl0 N.length (.v (.ref p) :: ds.map .d), [(p, intsO l)]⟩ (defBody st) ⟨fun _ => False, fun g r => r = .d d ∧ (p, intsO l') ∈ g.ow, fun _ => False, fun _ => False, fun _ _ _ => False⟩) :
    FnOk P w K mg base CX0 (k + 1) f fd ps (spM K R) := by
  refine Fn.ok S (fun vs H Q E ⟨Sx, p, l, l', ws, ds, d, e, _, _, _, hd, hR, _⟩ => by rw [e, List.length_cons, dpAll_length hd]; exact hl _ _ _ _ hR) (fun cdv A outer s H vs Q E hr ⟨Sx, p, l, l', ws, ds, d, e, hp, hpS, hS, hd, hR, q⟩ => ?_)
  subst e
  have hE : ∀ Hx : Hp, hid (Sx ++ [p]) Hx = hid (p :: Sx) Hx := fun Hx => by
    funext y
    unfold hid
    by_cases hy : y ∈ p :: Sx
    · rw [if_pos hy, if_pos (by simp at hy ⊢; rcases hy with h | h <;> simp [h])]
    · rw [if_neg hy, if_neg (by simp at hy ⊢; exact ⟨hy.2, hy.1⟩)]
  refine ⟨_, pss_s, h f cdv A outer s H E hr ⟨Sx, H, [p]⟩ p l ds l' d hR _ H _ ?_ ?_⟩
  · refine ⟨start_ok (.cons rfl ?_), fun y hy => ?_, by simp [G.dom], fun b o e _ => e, fun a m => .inr (by simpa [G.dom] using m), fun a m => ⟨hS a m, by simp; exact fun e => hpS (e ▸ m)⟩, fun a m => by rw [List.mem_singleton] at m; rw [m, hp]; simp⟩
    · show Paired (ItOk K (hid (Sx ++ [p]) H)) ws (ds.map .d)
      rw [hE]
      exact paired_of_dp hd
    · rw [List.mem_singleton] at hy
      subst hy
      exact ⟨_, hp, ints_of _⟩
  · refine ⟨fun g σ H' e s' => e.elim, fun g r σ v H' ⟨e, hj⟩ s' k' => ?_, fun _ _ _ h => h.elim, fun _ _ _ h => h.elim, fun _ _ _ _ _ _ h => h.elim⟩
    rw [e] at k'
    have k'' : Dt K (hid (Sx ++ g.dom) H') v d := k'
    obtain ⟨o, o1, o2⟩ := s'.ow _ hj
    have eo : o = .lst (l'.map V.int) := ints_is o2
    subst eo
    refine q v H' (fun b o n' e' => s'.ex b o e' (by simpa using n')) o1 (dp_mono (hid_less fun a m => ?_) k'')
    rcases List.mem_cons.mp m with m | m
    · exact List.mem_append_right _ (m ▸ List.mem_map.mpr ⟨_, hj, rfl⟩)
    · exact List.mem_append_left _ m
theorem okP_len {R : List PyData → PyData → Prop} {n : Nat} (h : ∀ ds d, R ds d → ds.length = n) : ∀ ds d, R ds d → ds.length = n := h
/-- a new list may be taken as data -/
theorem spN_P {R : List PyData → List PyData → Prop} : ∀ vs H Q E, spP K (fun ds d => ∃ es, d = .list es ∧ R ds es) vs H Q E → spN K R vs H Q E := fun vs H Q E ⟨S, ds, d, hS, hd, ⟨es, e, hR⟩, q⟩ => ⟨S, ds, es, hS, hd, hR, fun p ws H' hp e' h' x => by
  subst e
  have hn : p ∉ S := fun m => hS p m hp
  exact q _ H' e' (Dt.lst (hid_of hn h') (dpAll_mono (hid_less fun a m => List.mem_cons_of_mem _ m) x))⟩
theorem Cal.imp {k : Nat} {x : Str} {sp sp' : Sp} (C : Cal P w K mg base k x sp) (h : ∀ vs H Q E, sp' vs H Q E → sp vs H Q E) : Cal P w K mg base k x sp' := by
  obtain ⟨f, fd, ps, G, a, b, c⟩ := C.ex
  exact ⟨f, fd, ps, G.imp h, a, b, c⟩
end
variable {X : Cx} {F : Fm} {g g1 g2 g3 : G} {e a b c : Expr} {es : List Expr} {r s t : Sl} {rs : List Sl} {pos : Pos} {st : Stmt} {rest body : List Stmt} {z : Z} {tg iter : Expr} {ds : List PyData}
/-! ### what is ours is shared -/
/-- a list of data of ours is shared from now on; the slot i that held it holds the data -/
theorem Sat.share {K : PySem.W.Frag} {σ : St} {H : Hp} (s : Sat K F g σ H) {j : Nat} {p : Addr} {ds : List PyData} (hj : g.ow[j]? = some (p, .lst (ds.map .d))) (hM : p ∉ F.M) :
    Sat K F ⟨g.sl, g.ow.eraseIdx j⟩ σ H ∧ Dt K (F.hd ⟨g.sl, g.ow.eraseIdx j⟩ H) (.ref p) (.list ds) := by
  have hl : j < g.ow.length := (List.getElem?_eq_some_iff.mp hj).1
  have sub : ∀ x, x ∈ g.ow.eraseIdx j → x ∈ g.ow := fun x hx => (List.eraseIdx_sublist _ _).subset hx
  have up : Same (F.hd g H) (F.hd ⟨g.sl, g.ow.eraseIdx j⟩ H) := hid_less fun a m => by
    rcases List.mem_append.mp m with m | m
    · exact List.mem_append_left _ m
    · obtain ⟨x, hx, rfl⟩ := List.mem_map.mp m
      exact List.mem_append_right _ (List.mem_map.mpr ⟨x, sub x hx, rfl⟩)
  have nd2 : (G.dom ⟨g.sl, g.ow.eraseIdx j⟩).Nodup := by
    show ((g.ow.eraseIdx j).map (·.1)).Nodup
    exact s.nd.sublist ((List.eraseIdx_sublist _ _).map _)
  have pn : p ∉ G.dom ⟨g.sl, g.ow.eraseIdx j⟩ := fun m => by
    obtain ⟨x, hx, ex⟩ := List.mem_map.mp m
    obtain ⟨i, hi⟩ := List.mem_iff_getElem?.mp hx
    rw [List.getElem?_eraseIdx] at hi
    by_cases c : i < j
    · rw [if_pos c] at hi
      have := nd_ix s.nd (i := i) (j := j) (x := p) (by show (g.ow.map (·.1))[i]? = _; rw [List.getElem?_map, hi, ← ex]; rfl) (by show (g.ow.map (·.1))[j]? = _; rw [List.getElem?_map, hj]; rfl)
      omega
    · rw [if_neg c] at hi
      have := nd_ix s.nd (i := i + 1) (j := j) (x := p) (by show (g.ow.map (·.1))[i + 1]? = _; rw [List.getElem?_map, hi, ← ex]; rfl) (by show (g.ow.map (·.1))[j]? = _; rw [List.getElem?_map, hj]; rfl)
      omega
  obtain ⟨o, o1, ws, rfl, o2⟩ := s.own hj
  have pS : p ∉ F.S := fun m => s.apart m (mem_dom hj)
  refine ⟨⟨paired_mono (fun _ _ q => slOk_mono up q) s.sl, fun x hx => ?_, nd2, s.ex, fun a m => s.fr a ?_, s.sH, s.mH⟩, .lst (hid_of (fun m => ?_) o1) (dpAll_mono up (dp_of_paired o2))⟩
  · obtain ⟨u, u1, u2⟩ := s.ow x (sub x hx)
    exact ⟨u, u1, odOk_mono up u2⟩
  · obtain ⟨x, hx, rfl⟩ := List.mem_map.mp m
    exact List.mem_map.mpr ⟨x, sub x hx, rfl⟩
  · rcases List.mem_append.mp m with m | m
    · exact pS m
    · exact pn m
theorem ds_share (i j : Nat) {p : Addr} (hs : g.sl[i]? = some (.v (.ref p))) (hj : g.ow[j]? = some (p, .lst (ds.map .d))) (hM : p ∉ F.M) (k : DS X F ⟨g.sl.set i (.d (.list ds)), g.ow.eraseIdx j⟩ rest z) : DS X F g rest z := DS.mk fun σ H D s zk => by
  obtain ⟨s2, x2⟩ := s.share hj hM
  obtain ⟨o, h1, h2⟩ := sat_slot s hs
  have eo : o = some (V.ref p) := h2
  subst eo
  have s3 := s2.setSl (i := i) (v := .ref p) (r := .d (.list ds)) x2
  have es : σ.set i (some (V.ref p)) = σ := by
    refine List.ext_getElem? fun k => ?_
    by_cases e : i = k
    · subst e; rw [List.getElem?_set_self (List.getElem?_eq_some_iff.mp h1).1, h1]
    · rw [List.getElem?_set_ne e]
  rw [es] at s3
  exact k σ H D s3 zk
/-- a slot forgotten, an owned object forgotten: not needed so far -/
theorem ds_forget (i : Nat) (k : DS X F ⟨g.sl.set i .u, g.ow⟩ rest z) : DS X F g rest z := DS.mk fun σ H D s zk => by
  refine k σ H D ⟨?_, s.ow, s.nd, s.ex, s.fr, s.sH, s.mH⟩ zk
  have : ∀ {xs : St} {ys : List Sl} (i : Nat), Paired (SlOk X.K (F.hd g H)) xs ys → Paired (SlOk X.K (F.hd g H)) xs (ys.set i .u) := by
    intro xs ys i h
    induction h generalizing i with
    | nil => exact .nil
    | cons a t ih =>
      cases i with
      | zero => exact .cons (by rename_i x y; cases x <;> trivial) t
      | succ i => exact .cons a (ih i)
  exact this i s.sl
/-- lists of ours read as data for a while -/
def Bor (ow : List (Addr × OD)) (s s' : Sl) : Prop := s' = s ∨ ∃ (p : Addr) (ds : List PyData) (j : Nat), s = .v (.ref p) ∧ ow[j]? = some (p, OD.lst (List.map Sl.d ds)) ∧ s' = .d (.list ds)
theorem bor_refl {ow : List (Addr × OD)} : ∀ {sl : List Sl}, Paired (Bor ow) sl sl
  | [] => .nil
  | _ :: _ => .cons (Or.inl rfl) bor_refl
theorem bor_set {ow : List (Addr × OD)} (i j : Nat) {p : Addr} {ds : List PyData} : ∀ {sl sl' : List Sl}, sl[i]? = some (.v (.ref p)) → ow[j]? = some (p, .lst (ds.map .d)) → Paired (Bor ow) sl sl' → Paired (Bor ow) sl (sl'.set i (.d (.list ds))) := by
  intro sl sl' h1 h2 h
  induction h generalizing i with
  | nil => exact .nil
  | cons a t ih =>
    cases i with
    | zero => exact .cons (Or.inr ⟨p, ds, j, by simpa using h1, h2, rfl⟩) t
    | succ i => exact .cons a (ih i (by simpa using h1))
theorem Sat.borrow {K : PySem.W.Frag} {σ : St} {H : Hp} (s : Sat K F g σ H) {sl' : List Sl} (hb : Paired (Bor g.ow) g.sl sl') : Sat K ⟨F.S, H, []⟩ ⟨sl', []⟩ σ H := by
  have up : Same (F.hd g H) (hid (F.S ++ []) H) := hid_less fun a m => by
    rw [List.append_nil] at m
    exact List.mem_append_left _ m
  refine ⟨?_, fun x hx => absurd hx (by simp), List.nodup_nil, fun _ _ q' _ => q', fun a m => absurd m (by simp), fun a m => ⟨s.sIn m, by simp⟩, fun a m => absurd m (by simp)⟩
  show Paired (SlOk K (hid (F.S ++ []) H)) σ sl'
  have key : ∀ {xs : St} {sl sl' : List Sl}, Paired (SlOk K (F.hd g H)) xs sl → Paired (Bor g.ow) sl sl' → Paired (SlOk K (hid (F.S ++ []) H)) xs sl' := by
    intro xs sl sl' h1
    induction h1 generalizing sl' with
    | nil => intro h2; cases h2; exact .nil
    | cons a t ih =>
      intro h2
      cases h2 with
      | cons b u =>
      refine .cons ?_ (ih u)
      rcases b with b | ⟨p, ds, j, b1, b2, b3⟩
      · rw [b]; exact slOk_mono up a
      · rw [b1] at a
        rw [b3]
        have eo := (show _ = some (V.ref p) from a)
        subst eo
        obtain ⟨o, o1, ws, rfl, o2⟩ := s.own b2
        exact Dt.lst (hid_of (by rw [List.append_nil]; exact fun m => s.apart m (mem_dom b2)) o1) (dpAll_mono up (dp_of_paired o2))
  exact key s.sl hb
theorem de_borrow {sl' : List Sl} {d : PyData} (hb : Paired (Bor g.ow) g.sl sl') (f : flatD d = true) (h : ∀ F', F'.M = [] → DE X F' ⟨sl', []⟩ e ⟨sl', []⟩ (.d d)) : DE X F g e g (.d d) := by
  refine ⟨rfl, fun σ H Q s q => (h ⟨F.S, H, []⟩ rfl).run σ H Q (s.borrow hb) fun v H' s' k' x' => ?_⟩
  have e : Same H H' := fun b o q' => s'.ex b o q' (by simp)
  exact q v H' (s.grow e) (hid_same e) (dp_flat _ f x')
theorem dt_borrow {sl' : List Sl} {k : Bool} (hb : Paired (Bor g.ow) g.sl sl') (h : ∀ F', F'.M = [] → DT X F' ⟨sl', []⟩ e ⟨sl', []⟩ k) : DT X F g e g k := by
  refine ⟨rfl, fun σ H Q s q => (h ⟨F.S, H, []⟩ rfl).run σ H Q (s.borrow hb) fun H' s' k' => ?_⟩
  have e : Same H H' := fun b o q' => s'.ex b o q' (by simp)
  exact q H' (s.grow e) (hid_same e)
/-- a new list, its items no objects -/
theorem dn_borrow {sl' : List Sl} {es : List PyData} (hb : Paired (Bor g.ow) g.sl sl') (f : es.all flatD = true) (h : ∀ F', F'.M = [] → DN X F' ⟨sl', []⟩ e ⟨sl', []⟩ (.lst (es.map .d))) : DN X F g e g (.lst (es.map .d)) := by
  refine ⟨rfl, fun σ H Q s q => (h ⟨F.S, H, []⟩ rfl).run σ H Q (s.borrow hb) fun p H' hM hn h0 s' k' => ?_⟩
  have e : Same H H' := fun b o q' => s'.ex b o q' (by simp)
  have hp : H p = none := h0
  obtain ⟨o, o1, ws, rfl, o2⟩ := s'.ow (p, .lst (es.map .d)) (by simp)
  have sh : Same (F.hd g H) (hid (p :: (F.S ++ g.dom)) H') := hid_mono e fun a m => by
    rcases List.mem_cons.mp m with m | m
    · exact .inr (m ▸ hp)
    · exact .inl m
  have hn2 : p ∉ F.S ++ g.dom := s.newOut hp
  have dm : G.dom ⟨g.sl, g.ow ++ [(p, OD.lst (es.map .d))]⟩ = g.dom ++ [p] := by simp [G.dom]
  have e2 : F.hd ⟨g.sl, g.ow ++ [(p, OD.lst (es.map .d))]⟩ H' = hid (p :: (F.S ++ g.dom)) H' := by
    show hid (F.S ++ G.dom ⟨g.sl, g.ow ++ [(p, OD.lst (es.map .d))]⟩) H' = _
    rw [dm]
    funext y
    unfold hid
    by_cases hy : y ∈ p :: (F.S ++ g.dom)
    · rw [if_pos hy, if_pos (by simp at hy ⊢; rcases hy with h | h | h <;> simp [h])]
    · rw [if_neg hy, if_neg (by simp at hy ⊢; exact ⟨hy.2.1, hy.2.2, hy.1⟩)]
  refine q p H' (s.newM hp) hn2 (s.fresh0 hp) ?_ sh
  refine ⟨?_, fun y hy => ?_, ?_, fun b o q' m => e b o (s.ex b o q' m), fun a m => ?_, s.sH, fun a m => ?_⟩
  · rw [e2]; exact paired_mono (fun _ _ q' => slOk_mono sh q') s.sl
  · rw [e2]
    rcases List.mem_append.mp hy with hy | hy
    · obtain ⟨u, u1, u2⟩ := s.ow y hy
      exact ⟨u, e _ _ u1, odOk_mono sh u2⟩
    · rw [List.mem_singleton] at hy
      subst hy
      exact ⟨_, o1, ws, rfl, paired_of_dp (dpAll_flat _ f (dp_of_paired o2))⟩
  · rw [dm]
    exact List.nodup_append.mpr ⟨s.nd, by simp, fun a ha b hb e => hn2 (List.mem_append_right _ (by rw [List.mem_singleton] at hb; rw [← hb, ← e]; exact ha))⟩
  · rw [dm] at m
    rcases List.mem_append.mp m with m | m
    · exact s.fr a m
    · rw [List.mem_singleton] at m; exact .inl (m ▸ s.fresh0 hp)
  · cases q' : H a with
    | none => exact absurd q' (s.mH a m)
    | some o => rw [e a o q']; simp
/-! ### what is ours is changed -/
/-- a method of a list of ours that changes it -/
theorem de_mut {o : Expr} {apos : Pos} {name : Str} {p : Addr} {j : Nat} {xs0 : List Sl} {od od' : OD} {rr : V → List V → Hp → VK → Prop} (ho : DE X F g o g (.v (.ref p))) (ha : DA X F g es g1 rs) (h0 : g.ow[j]? = some (p, .lst xs0)) (hj : g1.ow[j]? = some (p, od))
    (hp : PE X (.Call (.Attribute o name apos) es [] pos) (tBM X.K "list" rr (eS X o) (aS X es)))
    (h : ∀ H u vs (Q : VK), H p = some u → ODok X.K (F.hd g H) u od → Paired (ItOk X.K (F.hd g H)) vs rs → (∀ v u', ODok X.K (F.hd g H) u' od' → SlOk X.K (F.hd g H) (some v) r → Q v (upd H p u')) → rr (.ref p) vs H Q) :
    DE X F g (.Call (.Attribute o name apos) es [] pos) ⟨g1.sl, g1.ow.set j (p, od')⟩ r := by
  refine ⟨(dom_set hj).trans ha.dom, fun σ H Q s q => eS_of hp (ho.run σ H _ s fun v H1 s1 k1 x1 => ?_)⟩
  have ev : some v = some (V.ref p) := x1
  cases ev
  obtain ⟨u0, u1, ws, rfl, _⟩ := s1.own h0
  refine ⟨.inl ⟨rfl, _, SqL.of u1⟩, ha.run σ H1 _ s1 fun vs H2 s2 k2 x2 => ?_⟩
  obtain ⟨u, v1, v2⟩ := s2.own hj
  rw [hd_dom ha.dom] at v2
  refine h H2 u vs Q v1 v2 x2 fun v u' w1 w2 => ?_
  have pd : p ∈ F.S ++ g.dom := List.mem_append_right _ (mem_dom h0)
  have eh : F.hd g (upd H2 p u') = F.hd g H2 := hid_upd_in pd
  obtain ⟨s3, k3⟩ := s2.put (H' := upd H2 p u') (o' := u') hj (fun b o n e => by rw [upd_ne n]; exact e) upd_same (od' := od') (by rw [hd_dom ha.dom, eh]; exact w1)
  rw [hd_dom ha.dom, hd_dom ha.dom] at k3
  exact q v _ s3 (k1.trans (k2.trans k3)) (by rw [eh]; exact w2)
/-- x.append(e) -/
theorem de_append {o : Expr} {apos : Pos} {p : Addr} {j : Nat} {xs0 xs : List Sl} (ho : DE X F g o g (.v (.ref p))) (he : DE X F g e g1 r) (h0 : g.ow[j]? = some (p, .lst xs0)) (hj : g1.ow[j]? = some (p, .lst xs)) (hz : xs.length ≤ 100000) (hst : starEach (e :: []) X.env = (false, eval e X.env) :: starEach [] X.env := by rfl)
    (hp : PE X (.Call (.Attribute o "append" apos) [e] [] pos) (tBM X.K "list" rAppend (eS X o) (aS X [e])) := by exact pe_bm PySem.F.plainAttrs_list PySem.F.slot_list_append PySem.F.type_list_append mt_append pe_s pa_s) :
    DE X F g (.Call (.Attribute o "append" apos) [e] [] pos) ⟨g1.sl, g1.ow.set j (p, .lst (xs ++ [r]))⟩ (.d .none) := by
  refine de_mut ho (da_cons he da_nil hst) h0 hj hp fun H u vs Q hu ou hvs q => ?_
  obtain ⟨ws, rfl, ow⟩ := ou
  cases hvs with
  | cons h1 h2 =>
    cases h2
    exact ⟨p, ws, _, rfl, rfl, hu, by rw [paired_length ow]; exact Nat.lt_of_le_of_lt hz (by decide), q _ _ ⟨_, rfl, paired_append ow (.cons h1 .nil)⟩ Dt.non⟩
/-- x.clear() -/
theorem de_clear {o : Expr} {apos : Pos} {p : Addr} {j : Nat} {xs : List Sl} (ho : DE X F g o g (.v (.ref p))) (hj : g.ow[j]? = some (p, .lst xs))
    (hp : PE X (.Call (.Attribute o "clear" apos) [] [] pos) (tBM0 X.K "list" rClear (eS X o)) := by exact pe_bm0 PySem.F.plainAttrs_list PySem.F.slot_list_clear PySem.F.type_list_clear mt_clear pe_s) :
    DE X F g (.Call (.Attribute o "clear" apos) [] [] pos) ⟨g.sl, g.ow.set j (p, .lst [])⟩ (.d .none) := by
  refine ⟨dom_set hj, fun σ H Q s q => eS_of hp (ho.run σ H _ s fun v H1 s1 k1 x1 => ?_)⟩
  have ev : some v = some (V.ref p) := x1
  cases ev
  obtain ⟨u0, u1, ws, rfl, _⟩ := s1.own hj
  refine ⟨.inl ⟨rfl, _, SqL.of u1⟩, p, ws, rfl, rfl, u1, ?_⟩
  have pd : p ∈ F.S ++ g.dom := List.mem_append_right _ (mem_dom hj)
  have eh : F.hd g (upd H1 p (.lst [])) = F.hd g H1 := hid_upd_in pd
  obtain ⟨s3, k3⟩ := s1.put (H' := upd H1 p (.lst [])) (o' := .lst []) hj (fun b o n e => by rw [upd_ne n]; exact e) upd_same (od' := .lst []) ⟨[], rfl, .nil⟩
  exact q _ _ s3 (k1.trans k3) Dt.non
/-- x.pop(i) -/
theorem de_popAt {o : Expr} {apos : Pos} {p : Addr} {j n : Nat} {xs0 xs : List Sl} {i : Int} (ho : DE X F g o g (.v (.ref p))) (he : DE X F g e g1 (.d (.int i))) (h0 : g.ow[j]? = some (p, .lst xs0)) (hj : g1.ow[j]? = some (p, .lst xs)) (hi : seqIndex? i xs.length = some n) (hx : xs[n]? = some r) (hib : -(2 ^ 63) ≤ i ∧ i < 2 ^ 63)
    (hst : starEach (e :: []) X.env = (false, eval e X.env) :: starEach [] X.env := by rfl)
    (hp : PE X (.Call (.Attribute o "pop" apos) [e] [] pos) (tBM X.K "list" rPopAt (eS X o) (aS X [e])) := by exact pe_bm PySem.F.plainAttrs_list PySem.F.slot_list_pop PySem.F.type_list_pop mt_popAt pe_s pa_s) :
    DE X F g (.Call (.Attribute o "pop" apos) [e] [] pos) ⟨g1.sl, g1.ow.set j (p, .lst (xs.eraseIdx n))⟩ r := by
  refine de_mut ho (da_cons he da_nil hst) h0 hj hp fun H u vs Q hu ou hvs q => ?_
  obtain ⟨ws, rfl, ow⟩ := ou
  cases hvs with
  | cons h1 h2 =>
    cases h2
    have h1' : Dt X.K (F.hd g H) _ (.int i) := h1
    cases h1'
    obtain ⟨y, y1, y2⟩ := paired_get ow hx
    refine ⟨p, ws, i, n, y, rfl, rfl, hu, hib.1, hib.2, by rw [paired_length ow]; exact hi, y1, q _ _ ⟨_, rfl, ?_⟩ y2⟩
    have er : ∀ {xs : List V} {ys : List Sl} (i : Nat), Paired (ItOk X.K (F.hd g H)) xs ys → Paired (ItOk X.K (F.hd g H)) (xs.eraseIdx i) (ys.eraseIdx i) := by
      intro xs ys i h
      induction h generalizing i with
      | nil => exact .nil
      | cons a t ih =>
        cases i with
        | zero => exact t
        | succ i => exact .cons a (ih i)
    exact er n ow
/-- x[i] = e, x a list of ours -/
theorem ds_setIx {o i : Expr} {tpos : Pos} {p : Addr} {j n : Nat} {xs : List Sl} {k : Int} (he : DE X F g e g1 r) (ho : DE X F g1 o g1 (.v (.ref p))) (hi : DE X F g1 i g2 (.d (.int k))) (hj : g2.ow[j]? = some (p, .lst xs)) (hn : ixN xs.length k = some n)
    (kk : DS X F ⟨g2.sl, g2.ow.set j (p, .lst (xs.set n r))⟩ rest z)
    (ha : ∀ v, assign (.Subscript o i tpos) X.env v = (do
      let ov ← holding [v] (eval o X.env)
      let iv ← holding [v, ov] (eval i X.env)
      standAt tpos
      holding [v, ov, iv] (setItem ov iv v)
      release [v, ov, iv] []) := by intro _; rfl)
    (hs : swapsWithSole [.Subscript o i tpos] e pos.line X.env = pure false := by rfl) (hw : swappedStores [.Subscript o i tpos] e X.env = pure none := by rfl) (h1 : (assignEach [.Subscript o i tpos] X.env).map (·.2) = [assign (.Subscript o i tpos) X.env] := by rfl) :
    DS X F g (.Assign [.Subscript o i tpos] e pos :: rest) z := DS.mk fun σ H D s zk => by
  refine uS_of (pss_cons (ps_asg pe_s (pg_sub pe_s pe_s set_list ha) hs hw h1) pss_s) (he.run σ H _ s fun v H1 s1 k1 x1 => ho.run σ H1 _ s1 fun ov H2 s2 k2 x2 => hi.run σ H2 _ s2 fun iv H3 s3 k3 x3 => ?_)
  have ev : some ov = some (V.ref p) := x2
  cases ev
  have x3' : Dt X.K _ iv (.int k) := x3
  cases x3'
  rw [hd_dom he.dom, hd_dom he.dom] at k2 k3
  obtain ⟨u, u1, ws, rfl, u2⟩ := s3.own hj
  refine ⟨p, ws, k, n, rfl, rfl, u1, by rw [paired_length u2]; exact hn, ?_⟩
  have d3 : g2.dom = g.dom := hi.dom.trans he.dom
  have pd : p ∈ F.S ++ g2.dom := List.mem_append_right _ (mem_dom hj)
  have eh : F.hd g2 (upd H3 p (.lst (ws.set n v))) = F.hd g2 H3 := hid_upd_in pd
  have xv : ItOk X.K (F.hd g2 H3) v r := by
    rw [hd_dom d3]
    exact slOk_mono (k2.trans k3) x1
  obtain ⟨s4, _⟩ := s3.put (H' := upd H3 p (.lst (ws.set n v))) (o' := .lst (ws.set n v)) hj (fun b o nb e => by rw [upd_ne nb]; exact e) upd_same (od' := .lst (xs.set n r)) ⟨_, rfl, by rw [eh]; exact paired_set xv n u2⟩
  exact kk σ _ D s4 zk
end DL
end L2
set_option Elab.async false
set_option linter.all false
set_option maxRecDepth 100000
set_option maxHeartbeats 4000000
namespace L2
namespace DL
open PySem PySem.Spec PyProof.Rows
variable {X : Cx} {F : Fm} {g g1 g2 g3 : G} {e a b c : Expr} {es : List Expr} {r s t : Sl} {rs : List Sl} {pos : Pos} {st : Stmt} {rest body : List Stmt} {z : Z} {tg iter : Expr} {ds : List PyData}
/-! ### comprehensions that change nothing -/
theorem lcF_take {α : Type} {xs : List α} {i : Nat} {x : α} (h : xs[i]? = some x) (p : α → Bool) (f : α → PyData) : (((xs.take (i + 1)).filter p).map f) = if p x = true then ((xs.take i).filter p).map f ++ [f x] else ((xs.take i).filter p).map f := by
  rw [List.take_add_one, h]
  by_cases e : p x = true
  · rw [if_pos e]; simp [e]
  · rw [if_neg e]; simp [e]
structure LcPure (X : Cx) (scope : Scope) (g : G) (vs : List Nat) (tg elt : Expr) (ifs : List Expr) (d : PyData) (k : Bool) (y : PyData) : Prop where
  ex : ∃ g2 js, (∀ s0 H0 C cl fp F', DG (Bx X scope s0 H0 C cl fp) F' ⟨wipeS g.sl vs, g.ow⟩ tg (.d d) g2 js) ∧ (∀ j ∈ js, j ∈ vs) ∧ (∀ s0 H0 C cl fp F', DTs (Bx X scope s0 H0 C cl fp) F' g2 ifs g2 k) ∧
    (k = true → ∀ s0 H0 C cl fp F', DE (Bx X scope s0 H0 C cl fp) F' g2 elt g2 (.d y))
theorem lc_pure {scope : Scope} {vs : List Nat} {elt : Expr} {ifs : List Expr} {α : Type} {xs : List α} {p : α → Bool} {f enc : α → PyData} (h : ∀ x ∈ xs, LcPure X scope g vs tg elt ifs (enc x) (p x) (f x)) :
    ∀ i d, (xs.map enc)[i]? = some d → LcStep X scope g.sl vs tg elt ifs g.ow g.ow d (((xs.take i).filter p).map f) (((xs.take (i + 1)).filter p).map f) := fun i d hd => by
  rw [List.getElem?_map] at hd
  cases hx : xs[i]? with
  | none => rw [hx] at hd; cases hd
  | some x =>
    rw [hx] at hd
    cases hd
    obtain ⟨g2, js, a1, a2, a3, a4⟩ := (h x (List.mem_of_getElem? hx)).ex
    have ow2 : g2.ow = g.ow := (a1 X.s_0 X.H_0 0 [] [] ⟨[], fun _ => none, []⟩).ow
    rw [lcF_take hx p f]
    refine ⟨g2, js, g2, p x, a1, a2, a3, fun e => ⟨f x, g2, a4 e, ow2, by rw [if_pos e]⟩, fun e => ⟨ow2, by rw [if_neg (by rw [e]; simp)]⟩⟩
theorem dn_lcF {elt : Expr} {ifs : List Expr} {scope : Scope} {own : List (Str × Nat)} {α : Type} {xs : List α} {p : α → Bool} {f enc : α → PyData} (nd : X.N.Nodup) (hi : DI X F g tg iter g1 (xs.map enc)) (h : ∀ x ∈ xs, LcPure X scope g1 (own.map (·.2)) tg elt ifs (enc x) (p x) (f x)) (hz : xs.length ≤ 100000) (ok : BlkOk X.N X.env.scope scope own) (hc : X.calm = true := by rfl) (hs : ∀ x, foldedSetIterable iter X.env x = pure x := by intro _; rfl) :
    DN X F g (.ListComp elt [⟨tg, iter, ifs, 0⟩] scope pos) g1 (.lst (((xs.filter p).map f).map .d)) := by
  have := dn_lc (pos := pos) (own := own) (fun i => ((xs.take i).filter p).map f) (fun _ => g1.ow) nd hi (by simp) rfl (fun _ _ => rfl) (by simpa using hz) (lc_pure h) ok hc hs
  rw [List.length_map, List.take_length] at this
  exact this
theorem dn_lcM {elt : Expr} {scope : Scope} {own : List (Str × Nat)} {α : Type} {xs : List α} {f enc : α → PyData} (nd : X.N.Nodup) (hi : DI X F g tg iter g1 (xs.map enc)) (h : ∀ x ∈ xs, ∃ g2 js, (∀ s0 H0 C cl fp F', DG (Bx X scope s0 H0 C cl fp) F' ⟨wipeS g1.sl (own.map (·.2)), g1.ow⟩ tg (.d (enc x)) g2 js) ∧ (∀ j ∈ js, j ∈ own.map (·.2)) ∧ (∀ s0 H0 C cl fp F', DE (Bx X scope s0 H0 C cl fp) F' g2 elt g2 (.d (f x))))
    (hz : xs.length ≤ 100000) (ok : BlkOk X.N X.env.scope scope own) (hc : X.calm = true := by rfl) (hs : ∀ x, foldedSetIterable iter X.env x = pure x := by intro _; rfl) :
    DN X F g (.ListComp elt [⟨tg, iter, [], 0⟩] scope pos) g1 (.lst ((xs.map f).map .d)) := by
  have := dn_lcF (pos := pos) (own := own) (p := fun _ => true) (f := f) (ifs := []) nd hi (fun x hx => by
    obtain ⟨g2, js, a1, a2, a3⟩ := h x hx
    exact ⟨g2, js, a1, a2, fun _ _ _ _ _ _ => dts_nil, fun _ => a3⟩) hz ok hc hs
  rw [List.filter_eq_self.mpr (fun _ _ => rfl)] at this
  exact this
/-- x = [.. for .. in ..] -/
theorem ds_lcF (i : Nat) {x : Str} {p2 cpos : Pos} {elt : Expr} {ifs : List Expr} {scope : Scope} {own : List (Str × Nat)} {α : Type} {xs : List α} {p : α → Bool} {f enc : α → PyData} (nd : X.N.Nodup) (hi : DI X F g tg iter g1 (xs.map enc)) (h : ∀ x ∈ xs, LcPure X scope g1 (own.map (·.2)) tg elt ifs (enc x) (p x) (f x)) (hz : xs.length ≤ 100000) (ok : BlkOk X.N X.env.scope scope own)
    (k : ∀ p0, p0 ∉ F.M → p0 ∉ F.S ++ g.dom → DS X F ⟨g1.sl.set i (.v (.ref p0)), g1.ow ++ [(p0, .lst (((xs.filter p).map f).map .d))]⟩ rest z)
    (hsw : swapsWith (.ListComp elt [⟨tg, iter, ifs, 0⟩] scope cpos) (some (.Name x p2)) pos.line X.env = pure true) (hN : X.N[i]? = some x := by rfl) (hy : X.env.scope.names.lookup x = some .local := by rfl) (hc : X.calm = true := by rfl) (hs : ∀ x, foldedSetIterable iter X.env x = pure x := by intro _; rfl) :
    DS X F g (.Assign [.Name x p2] (.ListComp elt [⟨tg, iter, ifs, 0⟩] scope cpos) pos :: rest) z := by
  refine ds_newLc i (own := own) (fun i => ((xs.take i).filter p).map f) (fun _ => g1.ow) nd hi (by simp) rfl (fun _ _ => rfl) (by simpa using hz) (lc_pure h) ok (fun p0 h1 h2 => ?_) hsw hN hy hc hs
  have := k p0 h1 h2
  rw [List.length_map, List.take_length]
  exact this
theorem ds_lcM (i : Nat) {x : Str} {p2 cpos : Pos} {elt : Expr} {scope : Scope} {own : List (Str × Nat)} {α : Type} {xs : List α} {f enc : α → PyData} (nd : X.N.Nodup) (hi : DI X F g tg iter g1 (xs.map enc)) (h : ∀ x ∈ xs, ∃ g2 js, (∀ s0 H0 C cl fp F', DG (Bx X scope s0 H0 C cl fp) F' ⟨wipeS g1.sl (own.map (·.2)), g1.ow⟩ tg (.d (enc x)) g2 js) ∧ (∀ j ∈ js, j ∈ own.map (·.2)) ∧ (∀ s0 H0 C cl fp F', DE (Bx X scope s0 H0 C cl fp) F' g2 elt g2 (.d (f x)))) (hz : xs.length ≤ 100000) (ok : BlkOk X.N X.env.scope scope own)
    (k : ∀ p0, p0 ∉ F.M → p0 ∉ F.S ++ g.dom → DS X F ⟨g1.sl.set i (.v (.ref p0)), g1.ow ++ [(p0, .lst ((xs.map f).map .d))]⟩ rest z)
    (hsw : swapsWith (.ListComp elt [⟨tg, iter, [], 0⟩] scope cpos) (some (.Name x p2)) pos.line X.env = pure true) (hN : X.N[i]? = some x := by rfl) (hy : X.env.scope.names.lookup x = some .local := by rfl) (hc : X.calm = true := by rfl) (hs : ∀ x, foldedSetIterable iter X.env x = pure x := by intro _; rfl) :
    DS X F g (.Assign [.Name x p2] (.ListComp elt [⟨tg, iter, [], 0⟩] scope cpos) pos :: rest) z := by
  refine ds_lcF i (own := own) (p := fun _ => true) (f := f) nd hi (fun x hx => by
    obtain ⟨g2, js, a1, a2, a3⟩ := h x hx
    exact ⟨g2, js, a1, a2, fun _ _ _ _ _ _ => dts_nil, fun _ => a3⟩) hz ok (fun p0 h1 h2 => ?_) hsw hN hy hc hs
  rw [List.filter_eq_self.mpr (fun _ _ => rfl)]
  exact k p0 h1 h2
/-! ### in, on data -/
/-- a sign in a text -/
theorem o_inSign {K : PySem.W.Frag} {u : Nat} {y : Str} : OpD X K (compareOp .In) (.str ⟨#[u]⟩) (.str y) (.bool (decide (u ∈ y.cps.toList))) := opD_flat op_in_sign (.bl _) (fun _ => .bl _) fun S H x z Q hx hy k => by
  cases hx; cases hy; exact ⟨u, y, rfl, rfl, k⟩
theorem o_notInSign {K : PySem.W.Frag} {u : Nat} {y : Str} : OpD X K (compareOp .NotIn) (.str ⟨#[u]⟩) (.str y) (.bool (!decide (u ∈ y.cps.toList))) := opD_flat op_notIn_sign (.bl _) (fun _ => .bl _) fun S H x z Q hx hy k => by
  cases hx; cases hy; exact ⟨u, y, rfl, rfl, k⟩
/-- what == tells of two flat data of one make -/
def fl : PyData → V
  | .none => .non | .bool b => .bl b | .int i => .int i | .str x => .str x | _ => .non
theorem dt_fl {K : PySem.W.Frag} {H : Hp} {v : V} {d : PyData} (f : flatD d = true) (h : Dt K H v d) : v = fl d ∧ flatV v = true := by
  cases h with
  | non => exact ⟨rfl, rfl⟩
  | bl b => exact ⟨rfl, rfl⟩
  | int i => exact ⟨rfl, rfl⟩
  | str x => exact ⟨rfl, rfl⟩
  | lst _ _ => cases f
  | tup _ _ => cases f
theorem dtAll_fl {K : PySem.W.Frag} {H : Hp} : ∀ {vs : List V} {ds : List PyData}, ds.all flatD = true → DtAll K H vs ds → vs = ds.map fl ∧ vs.all flatV = true
  | _, _, _, .nil => ⟨rfl, rfl⟩
  | _, _, f, .cons h r => by
    rw [List.all_cons, Bool.and_eq_true] at f
    obtain ⟨a1, a2⟩ := dt_fl f.1 h
    obtain ⟨b1, b2⟩ := dtAll_fl f.2 r
    exact ⟨by rw [a1, b1]; rfl, by rw [List.all_cons, a2, b2]; rfl⟩
/-- x in xs, for flat data -/
theorem o_inL {K : PySem.W.Frag} {d : PyData} {ds : List PyData} (hK : K = X.K) (fd : flatD d = true) (fs : ds.all flatD = true) : OpD X K (compareOp .In) d (.list ds) (.bool (inV (fl d) (ds.map fl))) := by
  subst hK
  refine opD_flat op_in_seq (.bl _) (fun _ => .bl _) fun S H x y Q hx hy k => ?_
  cases hy with
  | lst h1 h2 =>
    obtain ⟨a1, a2⟩ := dt_fl fd hx
    obtain ⟨b1, b2⟩ := dtAll_fl fs h2
    refine ⟨_, _, rfl, .inl (SqL.of (unhid _ _ h1)), a2, b2, ?_⟩
    rw [a1, b1]
    exact k
theorem o_notInL {K : PySem.W.Frag} {d : PyData} {ds : List PyData} (hK : K = X.K) (fd : flatD d = true) (fs : ds.all flatD = true) : OpD X K (compareOp .NotIn) d (.list ds) (.bool (!inV (fl d) (ds.map fl))) := by
  subst hK
  refine opD_flat op_notIn_seq (.bl _) (fun _ => .bl _) fun S H x y Q hx hy k => ?_
  cases hy with
  | lst h1 h2 =>
    obtain ⟨a1, a2⟩ := dt_fl fd hx
    obtain ⟨b1, b2⟩ := dtAll_fl fs h2
    refine ⟨_, _, rfl, .inl (SqL.of (unhid _ _ h1)), a2, b2, ?_⟩
    rw [a1, b1]
    exact k
theorem o_inT {K : PySem.W.Frag} {d : PyData} {ds : List PyData} (hK : K = X.K) (fd : flatD d = true) (fs : ds.all flatD = true) : OpD X K (compareOp .In) d (.tuple ds) (.bool (inV (fl d) (ds.map fl))) := by
  subst hK
  refine opD_flat op_in_seq (.bl _) (fun _ => .bl _) fun S H x y Q hx hy k => ?_
  cases hy with
  | tup h1 h2 =>
    obtain ⟨a1, a2⟩ := dt_fl fd hx
    obtain ⟨b1, b2⟩ := dtAll_fl fs h2
    refine ⟨_, _, rfl, .inr (same_t unhid h1), a2, b2, ?_⟩
    rw [a1, b1]
    exact k
theorem o_notInT {K : PySem.W.Frag} {d : PyData} {ds : List PyData} (hK : K = X.K) (fd : flatD d = true) (fs : ds.all flatD = true) : OpD X K (compareOp .NotIn) d (.tuple ds) (.bool (!inV (fl d) (ds.map fl))) := by
  subst hK
  refine opD_flat op_notIn_seq (.bl _) (fun _ => .bl _) fun S H x y Q hx hy k => ?_
  cases hy with
  | tup h1 h2 =>
    obtain ⟨a1, a2⟩ := dt_fl fd hx
    obtain ⟨b1, b2⟩ := dtAll_fl fs h2
    refine ⟨_, _, rfl, .inr (same_t unhid h1), a2, b2, ?_⟩
    rw [a1, b1]
    exact k
end DL
end L2
set_option Elab.async false
set_option linter.all false
set_option maxRecDepth 100000
set_option maxHeartbeats 4000000
namespace L2
namespace DL
open PySem PySem.Spec PyProof.Rows
/-! ### data that == may be asked of -/
def Pl (n : Nat) (d : PyData) : Prop := d.canLay0 = true ∧ d.depth ≤ n
theorem pl_non {n : Nat} : Pl n .none := ⟨by simp [PyData.canLay0], by simp [PyData.depth]⟩
theorem pl_bl {n : Nat} (b : Bool) : Pl n (.bool b) := ⟨by simp [PyData.canLay0], by simp [PyData.depth]⟩
theorem pl_int {n : Nat} (i : Int) : Pl n (.int i) := ⟨by simp [PyData.canLay0], by simp [PyData.depth]⟩
theorem pl_str {n : Nat} {x : Str} (h : PyData.strOk x = true) : Pl n (.str x) := ⟨by simpa [PyData.canLay0] using h, by simp [PyData.depth]⟩
theorem pl_all {n : Nat} : ∀ {ds : List PyData}, (∀ d ∈ ds, Pl n d) → PyData.canLayAll0 ds = true ∧ PyData.depthAll ds ≤ n
  | [], _ => ⟨by simp [PyData.canLayAll0], by simp [PyData.depthAll]⟩
  | d :: ds, h => by
    obtain ⟨a1, a2⟩ := h d List.mem_cons_self
    obtain ⟨b1, b2⟩ := pl_all (ds := ds) fun e he => h e (List.mem_cons_of_mem _ he)
    exact ⟨by rw [PyData.canLayAll0, a1, b1]; rfl, by rw [PyData.depthAll]; omega⟩
theorem pl_list {n : Nat} {ds : List PyData} (h : ∀ d ∈ ds, Pl n d) : Pl (n + 1) (.list ds) := by
  obtain ⟨a, b⟩ := pl_all h
  exact ⟨by simpa [PyData.canLay0] using a, by rw [PyData.depth]; omega⟩
theorem pl_tup {n : Nat} {ds : List PyData} (h : ∀ d ∈ ds, Pl n d) : Pl (n + 1) (.tuple ds) := by
  obtain ⟨a, b⟩ := pl_all h
  exact ⟨by simpa [PyData.canLay0] using a, by rw [PyData.depth]; omega⟩
theorem pl_nil {n : Nat} : ∀ d ∈ ([] : List PyData), Pl n d := fun d h => absurd h (by simp)
theorem pl_cons {n : Nat} {d : PyData} {ds : List PyData} (h : Pl n d) (r : ∀ e ∈ ds, Pl n e) : ∀ e ∈ d :: ds, Pl n e := fun e he => by
  rcases List.mem_cons.mp he with he | he
  · exact he ▸ h
  · exact r e he
theorem pl_map {n : Nat} {α : Type} {f : α → PyData} {xs : List α} (h : ∀ x ∈ xs, Pl n (f x)) : ∀ d ∈ xs.map f, Pl n d := fun d hd => by
  obtain ⟨x, hx, rfl⟩ := List.mem_map.mp hd
  exact h x hx
theorem Pl.mono {n m : Nat} {d : PyData} (h : Pl n d) (k : n ≤ m) : Pl m d := ⟨h.1, Nat.le_trans h.2 k⟩
theorem Pl.sh {n : Nat} {d : PyData} (h : Pl n d) (k : n ≤ 64 := by decide) : SeqAt.shaped d = true := by
  unfold SeqAt.shaped
  rw [h.1, decide_eq_true (Nat.le_trans h.2 k)]
  rfl
theorem pl_ints (ns : List Int) : Pl 1 (.list (ns.map .int)) := pl_list (pl_map fun _ _ => pl_int _)
/-! ### == of data without bools -/
mutual
def noB : PyData → Bool
  | .none | .int _ | .str _ => true
  | .bool _ => false
  | .list xs | .tuple xs => noBs xs
  | .dict _ => false
def noBs : List PyData → Bool
  | [] => true
  | x :: xs => noB x && noBs xs
end
mutual
theorem eqv_iff : ∀ d e : PyData, noB d = true → noB e = true → (PyData.eqv d e = true ↔ d = e)
  | .none, e, _, h => by cases e <;> simp [PyData.eqv, noB] at h ⊢
  | .int i, e, _, h => by cases e <;> simp [PyData.eqv, noB] at h ⊢
  | .str x, e, _, h => by cases e <;> simp [PyData.eqv, noB] at h ⊢
  | .bool _, _, h, _ => by simp [noB] at h
  | .dict _, _, h, _ => by simp [noB] at h
  | .list xs, e, h, h' => by
    cases e with
    | list ys =>
      rw [PyData.eqv, eqvAll_iff xs ys (by simpa [noB] using h) (by simpa [noB] using h')]
      simp
    | bool _ => simp [noB] at h'
    | dict _ => simp [noB] at h'
    | _ => simp [PyData.eqv]
  | .tuple xs, e, h, h' => by
    cases e with
    | tuple ys =>
      rw [PyData.eqv, eqvAll_iff xs ys (by simpa [noB] using h) (by simpa [noB] using h')]
      simp
    | bool _ => simp [noB] at h'
    | dict _ => simp [noB] at h'
    | _ => simp [PyData.eqv]
theorem eqvAll_iff : ∀ xs ys : List PyData, noBs xs = true → noBs ys = true → (PyData.eqvAll xs ys = true ↔ xs = ys)
  | [], [], _, _ => by simp [PyData.eqvAll]
  | [], _ :: _, _, _ => by simp [PyData.eqvAll]
  | _ :: _, [], _, _ => by simp [PyData.eqvAll]
  | x :: xs, y :: ys, h, h' => by
    rw [noBs, Bool.and_eq_true] at h h'
    rw [PyData.eqvAll, Bool.and_eq_true, eqv_iff x y h.1 h'.1, eqvAll_iff xs ys h.2 h'.2]
    simp
end
theorem noBs_map {α : Type} {f : α → PyData} : ∀ {xs : List α}, (∀ x ∈ xs, noB (f x) = true) → noBs (xs.map f) = true
  | [], _ => by simp [noBs]
  | x :: xs, h => by
    rw [List.map_cons, noBs, h x List.mem_cons_self, noBs_map fun y hy => h y (List.mem_cons_of_mem _ hy)]
    rfl
theorem noB_ints (ns : List Int) : noB (.list (ns.map .int)) = true := by rw [noB]; exact noBs_map fun _ _ => by rw [noB]
theorem eqv_self {d : PyData} (h : noB d = true) : PyData.eqv d d = true := (eqv_iff d d h h).mpr rfl
theorem eqv_no {d e : PyData} (h : noB d = true) (h' : noB e = true) (n : d ≠ e) : PyData.eqv d e = false := by
  cases q : PyData.eqv d e with
  | false => rfl
  | true => exact absurd ((eqv_iff d e h h').mp q) n
theorem map_inj {α β : Type} {f : α → β} (h : ∀ a b, f a = f b → a = b) : ∀ {xs ys : List α}, xs.map f = ys.map f → xs = ys
  | [], [], _ => rfl
  | [], _ :: _, e => by simp at e
  | _ :: _, [], e => by simp at e
  | x :: xs, y :: ys, e => by
    rw [List.map_cons, List.map_cons] at e
    injection e with e1 e2
    rw [h _ _ e1, map_inj h e2]
theorem ints_inj {xs ys : List Int} (h : xs.map PyData.int = ys.map .int) : xs = ys := map_inj (fun a b e => by injection e) h
/-- == of two lists of ints -/
theorem eqv_ints (xs ys : List Int) : PyData.eqv (.list (xs.map .int)) (.list (ys.map .int)) = decide (xs = ys) := by
  by_cases e : xs = ys
  · rw [e, eqv_self (noB_ints _), decide_eq_true rfl]
  · rw [decide_eq_false e, eqv_no (noB_ints _) (noB_ints _)]
    intro q
    injection q with q
    exact e (ints_inj q)
theorem eqv_nil {xs : List PyData} : PyData.eqv (.list xs) (.list []) = xs.isEmpty := by
  cases xs <;> simp [PyData.eqv, PyData.eqvAll]
theorem all_flat {α : Type} {f : α → PyData} (h : ∀ x, flatD (f x) = true) (xs : List α) : (xs.map f).all flatD = true := by
  rw [List.all_map, List.all_eq_true]
  exact fun x _ => h x
theorem inV_ints (x : Int) (xs : List Int) : inV (.int x) (xs.map V.int) = decide (x ∈ xs) := by
  unfold inV
  induction xs with
  | nil => simp
  | cons y ys ih =>
    rw [List.map_cons, List.any_cons, ih]
    by_cases e : x = y
    · subst e; simp [eqV]
    · simp [eqV, e, Ne.symm e]
theorem inV_strs (x : Str) (xs : List Str) : inV (.str x) (xs.map V.str) = decide (x ∈ xs) := by
  unfold inV
  induction xs with
  | nil => simp
  | cons y ys ih =>
    rw [List.map_cons, List.any_cons, ih]
    by_cases e : x = y
    · subst e; simp [eqV]
    · simp [eqV, e, Ne.symm e]
end DL
end L2
set_option Elab.async false
set_option linter.all false
set_option maxRecDepth 100000
set_option maxHeartbeats 4000000
/-! list(reversed(xs)) -/
namespace RT
open PySem PyProof.Rows PySem.W
section
variable {prog : Program} {w : World} {A : Around} {E : Value → Shared → Prop} {s : Shared}
theorem extend_rev {R : Result → Shared → Prop} {it l : Addr} {items : Array Value} (hh : A.handled = none) (hit : s.heap.IsRevIter it l ((items.size : Int) - 1)) (hl : s.heap.IsList l items) (hne : l ≠ it) (hn : items.size ≤ sizeLine)
    (S : Addr) (hSi : S ≠ it) (hSl : S ≠ l) (res : Value) (c₀ : Nat) (hS : s.heap.get? S = some { cls := .type "list", data := .seq #[] c₀ })
    (hR : ∀ h' tk acc' c', (∀ b o, b ≠ S → b ≠ it → s.heap.get? b = some o → h'.get? b = some o) → h'.get? S = some { cls := .type "list", dict := none, data := .seq acc' c', slots := #[] } → ItemsOf (fun i v => items[items.size - 1 - i]? = some v) acc' items.size → R (.ok (.ret res)) { s with heap := h', toks := tk }) :
    wpAny (model prog w) A.in1 (Builtin.List.listExtendWith (.ref S) (.ref it) res)
      (fun fin s' => match fin with | .done f => R (.ok f) s' | .again c' => c'.quiet = true ∧ codeAny (model prog w) A c' R s') (fun e s' => R (.error e) s') s := by
  have W := (Walks.listRev (prog := prog) (w := w) (A := A.in1) hh it l hne items).toS
  have hSf : S ∉ [it, l] := by simp only [List.mem_cons, List.not_mem_nil, or_false, not_or]; exact ⟨hSi, hSl⟩
  have hT : s.TypeIs (.ref it) "list_reverseiterator" := hit.typeIs
  have h1 : Builtin.List.listSameRef (.ref S) (.ref it) = false := by simp [Builtin.List.listSameRef, hSi]
  have h2 : (Value.type "list_reverseiterator" == Value.type "list") = false := by decide
  have h3 : (Value.type "list_reverseiterator" == Value.type "tuple") = false := by decide
  unfold Builtin.List.listExtendWith
  refine wpAny_bind (wpAny_typeOf hT ?_)
  simp only [h1, h2, h3, Bool.or_false, Bool.false_eq_true, if_false]
  refine wpAny_bind (wpAny_pyIter_revIter hit ?_)
  refine wpAny_bind (wpAny_holding ?_)
  unfold Builtin.List.listLengthHint
  refine wpAny_bind (wpAny_specialOf hT nolen_lri ?_)
  show wpAny _ A.in1 (specialOf (Value.ref it) (Str.ofString "__length_hint__") >>= _) _ _ _
  refine wpAny_bind (wpAny_specialOf hT hint_lri ?_)
  generalize hid : ("list_reverseiterator.__length_hint__" : String) = id0
  wp_delta
  rw [show splitId id0 = some ("list_reverseiterator", "__length_hint__") from by subst hid; decide +kernel]
  subst hid
  refine wpAny_bind (wpAny_isInstance (b := true) hT (by rw [isSubtype_type]; kernel_rfl) ?_)
  refine wpAny_pure ?_
  rw [if_neg (by decide)]
  have e0 : ((items.size : Nat) : Int) - 1 - ((0 : Nat) : Int) = (items.size : Int) - 1 := by omega
  refine wpAny_pure ⟨plainId_quiet F.plain_extend_loop _, codeAny_extend_loopS W hn S hSf res items.size 0 _ #[] c₀ rfl (Nat.zero_le _) ⟨Nat.zero_le _, by rw [e0]; exact hit, hl⟩ hS (ItemsOf.nil _) fun s' acc' c' hm hS' hacc => ?_⟩
  rw [Moved.eq_with hm]
  refine hR s'.heap s'.toks acc' c' (fun b o hb hb2 e => hm.heap b o (fun hmem => ?_) e) hS' hacc
  rcases List.mem_cons.mp hmem with e' | hmem
  · exact hb e'
  · exact hb2 (List.mem_singleton.mp hmem)
theorem init_rev {R : Result → Shared → Prop} {it l : Addr} {items : Array Value} (hh : A.handled = none) (hit : s.heap.IsRevIter it l ((items.size : Int) - 1)) (hl : s.heap.IsList l items) (hne : l ≠ it) (hn : items.size ≤ sizeLine)
    (S : Addr) (hSi : S ≠ it) (hSl : S ≠ l) (hS : s.heap.get? S = some { cls := .type "list", data := .seq #[] })
    (hR : ∀ h' tk acc' c', (∀ b o, b ≠ S → b ≠ it → s.heap.get? b = some o → h'.get? b = some o) → h'.get? S = some { cls := .type "list", dict := none, data := .seq acc' c', slots := #[] } → ItemsOf (fun i v => items[items.size - 1 - i]? = some v) acc' items.size → R (.ok (.ret .none)) { s with heap := h', toks := tk }) :
    wpAny (model prog w) A.in1 (Builtin.«list.__init__» ⟨[.ref S, .ref it], []⟩)
      (fun fin s' => match fin with | .done f => R (.ok f) s' | .again c' => c'.quiet = true ∧ codeAny (model prog w) A c' R s') (fun e s' => R (.error e) s') s := by
  show wpAny _ _ (do let old ← Builtin.List.listItems (.ref S); Builtin.List.listUpdate (.ref S) (fun _ => #[]); letGo old.toList.reverse; Builtin.List.listExtendWith (.ref S) (.ref it) .none) _ _ s
  refine wpAny_bind ?_
  unfold Builtin.List.listItems
  refine wpAny_bind (wpAny_seqItems hS rfl (wpAny_pure ?_))
  show wpAny _ _ (updateSeq S (fun _ => #[]) >>= fun _ => letGo (#[] : Array Value).toList.reverse >>= fun _ => Builtin.List.listExtendWith (.ref S) (.ref it) .none) _ _ s
  refine wpAny_bind (wpAny_updateSeq hS rfl ?_)
  have hS₂ := Heap.get?_update_self (Obj.mapSeq (fun _ => (#[] : Array Value))) hS rfl
  have oth : ∀ b o, b ≠ S → s.heap.get? b = some o → (s.heap.update S (Obj.mapSeq (fun _ => (#[] : Array Value)))).get? b = some o :=
    fun b o hb e => (Heap.get?_update_other _ _ (Ne.symm hb)).trans e
  refine wpAny_bind (wpAny_letGo ?_)
  refine extend_rev (s := { s with heap := s.heap.update S (Obj.mapSeq (fun _ => (#[] : Array Value))) }) hh (hit.at fun o e => oth it o hSi.symm e) (hl.at fun o e => oth l o hSl.symm e) hne hn S hSi hSl .none _ hS₂ fun h' tk acc' c' hk hS' hacc => ?_
  exact hR h' tk acc' c' (fun b o hb hb2 e => hk b o hb hb2 (oth b o hb e)) hS' hacc
theorem call_list_rev {it l : Addr} {items : Array Value} {Q : Value → Shared → Prop} (hh : A.handled = none) (hit : s.heap.IsRevIter it l ((items.size : Int) - 1)) (hl : s.heap.IsList l items) (hne : l ≠ it) (hn : items.size ≤ sizeLine)
    (hQ : ∀ h' tk acc' c', (∀ b o, b ≠ it → s.heap.get? b = some o → h'.get? b = some o) → h'.get? s.heap.objs.size = some { cls := .type "list", dict := none, data := .seq acc' c', slots := #[] } → ItemsOf (fun i v => items[items.size - 1 - i]? = some v) acc' items.size → Q (.ref s.heap.objs.size) { s with heap := h', toks := tk }) :
    wpAny (model prog w) A (call (.type "list") [.ref it]) Q E s := by
  refine callType_codes (Q₁ := fun obj s₁ => obj = .ref s.heap.objs.size ∧ s₁ = { s with heap := s.heap.push { cls := .type "list", data := .seq #[] } }) PySem.F.called_list (PySem.F.typeCall_list_1 _) PySem.F.entry_list_init
    (code_list_new _ ⟨rfl, rfl⟩) fun obj s₁ h₁ => ?_
  obtain ⟨rfl, rfl⟩ := h₁
  have hS : (s.heap.push { cls := .type "list", data := .seq #[] }).get? s.heap.objs.size = some { cls := .type "list", data := .seq #[] } := Heap.get?_push_size _ rfl
  obtain ⟨oi, hoi, _⟩ := id hit
  obtain ⟨ol, hol, _⟩ := id hl
  refine ⟨⟨_, hS, rfl⟩, PySem.F.args_list_init_2 _ _, init_rev (A := A.in1) (s := { s with heap := s.heap.push { cls := .type "list", data := .seq #[] } }) hh (hit.at fun o e => Heap.get?_push_of_some _ e) (hl.push _) hne hn _ (Nat.ne_of_gt (Heap.lt_size hoi)) (Nat.ne_of_gt (Heap.lt_size hol)) hS fun h' tk acc' c' hk hS' hacc => ?_⟩
  exact ⟨rfl, hQ h' tk acc' c' (fun b o hb e => hk b o (Nat.ne_of_lt (Heap.lt_size e)) hb (Heap.get?_push_of_some _ e)) hS' hacc⟩
end
end RT
namespace L2
open PySem PySem.Spec PyProof.Rows RT
/-- list(reversed(x)), x a list: a new list -/
def tLstRev (K : PySem.W.Frag) (te : TE) : TE := fun σ H Q => te σ H fun v H1 => ∃ (a : Addr) (xs : List V), v = .ref a ∧ SqL K H1 a xs ∧ ∀ q, H1 q = none → Q (.ref q) (upd H1 q (.lst xs.reverse))
theorem pe_lstRev {X : Cx} {e : Expr} {te : TE} {p p2 pos pos2 : Pos} (hc : X.calm = true) (hg : Gl X "list") (hm : X.mg "list" = none) (hg2 : Gl X "reversed") (hm2 : X.mg "reversed" = none) (he : PE X e te)
    (hs : starEach [e] X.env = (false, eval e X.env) :: starEach [] X.env := by rfl)
    (hs2 : starEach [.Call (.Name "reversed" p2) [e] [] pos2] X.env = (false, eval (.Call (.Name "reversed" p2) [e] [] pos2) X.env) :: starEach [] X.env := by rfl) :
    PE X (.Call (.Name "list" p) [.Call (.Name "reversed" p2) [e] [] pos2] [] pos) (tLstRev X.K te) := by
  refine ⟨fun pins s σ H Q I h => ?_⟩
  refine Call_ (ld_blt I hg hm boot_list (PyProof.Rows.callWith_type1 (args_cons (Call_ (ld_blt I hg2 hm2 PyProof.Rows.boot_reversed (PyProof.Rows.callWith_type1 (args_cons (thn (he.run pins s σ H _ I h) fun u s1 ⟨v, H1, I1, r1, q1⟩ => args_nil ?_) hs) hs rfl))) hs2) hs2 rfl))
  obtain ⟨a, xs, ev, hq, q⟩ := q1
  subst ev
  obtain rfl : u = Value.ref a := r1
  obtain ⟨its, rv, p', hz⟩ := I1.list hq
  refine call_reversed_list p'.isList (args_nil ?_)
  have k0 : ∀ b o, s1.heap.get? b = some o → (s1.heap.push (revObj a ((its.toArray.size : Int) - 1))).get? b = some o := fun b o e => Heap.get?_push_of_some _ e
  have I2 : Inv X pins σ H1 { s1 with heap := s1.heap.push (revObj a ((its.toArray.size : Int) - 1)) } := I1.kept (t' := s1.toks) k0
  obtain ⟨f0, f1, f2, f3, f4, f5⟩ := I1.fpOk (H' := H1) (b := s1.heap.objs.size) (Nat.le_refl _) (I1.hok.fresh (Nat.le_refl _))
  have hl := p'.isList
  obtain ⟨ol, hol, _⟩ := id hl
  have hne : a ≠ s1.heap.objs.size := Nat.ne_of_lt (Heap.lt_size hol)
  have hn : its.toArray.size ≤ sizeLine := by rw [List.size_toArray, ← rv.length]; exact hz
  refine call_list_rev (s := { s1 with heap := s1.heap.push (revObj a ((its.toArray.size : Int) - 1)) }) (I1.ok.hd hc) ⟨_, Heap.get?_push_size _ rfl, rfl, rfl⟩ (hl.push _) hne hn fun h' tk acc c hk hS hi => ?_
  have sz : (s1.heap.push (revObj a ((its.toArray.size : Int) - 1))).objs.size = s1.heap.objs.size + 1 := Heap.size_push _ _
  have fr : H1 (s1.heap.objs.size + 1) = none := I1.hok.fresh (Nat.le_succ _)
  -- the iterator has turned, the new list lies behind it
  have key : ∃ hm : Heap, (∀ b o, s1.heap.get? b = some o → hm.get? b = some o) ∧ True := ⟨s1.heap, fun _ _ e => e, trivial⟩
  have I3 : Inv X pins σ (upd H1 (s1.heap.objs.size + 1) (.lst xs.reverse)) { s1 with heap := h', toks := tk } := by
    refine I1.laid (t' := tk) (a := s1.heap.objs.size + 1) (o := .lst xs.reverse) (fun b o e => hk b o (Nat.ne_of_lt (Heap.lt_size e)) (k0 b o e)) (Nat.le_succ _) ?_
    refine ⟨by rw [List.length_reverse]; exact hz, acc.toList, c, vals_rev rv hi, ?_⟩
    rw [Array.toArray_toList]
    rw [sz] at hS
    exact hS
  rw [sz]
  exact ⟨.ref (s1.heap.objs.size + 1), _, I3, rfl, q _ fr⟩
namespace DL
variable {X : Cx} {F : Fm} {g g1 g2 g3 : G} {e a b c : Expr} {es : List Expr} {pos : Pos} {ds : List PyData}
theorem dn_lstRev {p p2 pos2 : Pos} (hm : X.mg "list" = none) (hm2 : X.mg "reversed" = none) (h : DE X F g e g1 (.d (.list ds))) (hc : X.calm = true := by rfl) (hg : Gl X "list" := by rfl) (hg2 : Gl X "reversed" := by rfl)
    (hs : starEach [e] X.env = (false, eval e X.env) :: starEach [] X.env := by rfl)
    (hs2 : starEach [.Call (.Name "reversed" p2) [e] [] pos2] X.env = (false, eval (.Call (.Name "reversed" p2) [e] [] pos2) X.env) :: starEach [] X.env := by rfl) :
    DN X F g (.Call (.Name "list" p) [.Call (.Name "reversed" p2) [e] [] pos2] [] pos) g1 (.lst (ds.reverse.map .d)) := by
  refine ⟨h.dom, fun σ H Q s q => eS_of (pe_lstRev hc hg hm hg2 hm2 pe_s hs hs2) (h.run σ H _ s fun x H1 s1 k1 x1 => ?_)⟩
  cases x1 with
  | lst h1 h2 => exact ⟨_, _, rfl, SqL.of (unhid _ _ h1), fun p hp => dn_at h.dom s1 k1 p hp (by rw [hd_dom h.dom]; exact ⟨_, rfl, paired_of_dp (dpAll_reverse h2)⟩) q⟩
end DL
end L2
set_option Elab.async false
set_option linter.all false
set_option maxRecDepth 100000
set_option maxHeartbeats 4000000
namespace L2
namespace DL
open PySem PySem.Spec PyProof.Rows
variable {X : Cx} {F : Fm} {g g1 g2 g3 : G} {e a b c : Expr} {es : List Expr} {r s t : Sl} {rs : List Sl} {pos : Pos} {st : Stmt} {rest body : List Stmt} {z : Z} {tg iter : Expr} {ds : List PyData}
theorem ds_eqG {g' : G} (h : g = g') (k : DS X F g' rest z) : DS X F g rest z := h ▸ k
/-! ### text * int -/
def repS (x : Str) (n : Nat) : Str := ⟨(List.replicate n x.cps.toList).flatten.toArray⟩
theorem foldl_arr (x : Array Nat) : ∀ (n : Nat) (acc : Array Nat), (List.replicate n x).foldl (· ++ ·) acc = (acc.toList ++ (List.replicate n x.toList).flatten).toArray
  | 0, acc => by simp
  | n + 1, acc => by
    rw [List.replicate_succ, List.foldl_cons, foldl_arr x n, List.replicate_succ, List.flatten_cons, Array.toList_append, List.append_assoc]
theorem op_mulS : OpR X (binaryOp .Mult) (fun x y H Q => ∃ z n, x = .str z ∧ y = .int n ∧ n ≤ 1000 ∧ -1000 ≤ n ∧ z.length ≤ 1000 ∧ Q (.str (repS z n.toNat)) H) := by
  intro pins s σ H x y v u Q I rx ry h
  obtain ⟨z, n, rfl, rfl, h1, h2, h3, q⟩ := h
  obtain ⟨t, rfl⟩ := rx
  obtain ⟨t', rfl⟩ := ry
  have hz : z.cps.size ≤ 1000 := h3
  have hm : ∀ m : Nat, m ≤ 1000 → z.length * m ≤ 1000000 := fun m hm => Nat.le_trans (Nat.mul_le_mul h3 hm) (by decide)
  refine PySem.P.mul_str ?_ (fun g1 g2 g3 => ?_) (fun g1 g2 => ?_) ?_
  · rw [decide_eq_false (by omega), decide_eq_false (by omega)]; rfl
  · have h4 : n ≤ 1000 := h1
    have h5 : (1000 : Int) ≤ (2 ^ 63 - 1) / n := by
      refine Int.le_ediv_of_mul_le (by omega) ?_
      omega
    have : (z.length : Int) ≤ 1000 := by exact_mod_cast h3
    omega
  · have := hm n.toNat (by omega)
    unfold Builtin.Str.tooLong
    simp only [decide_eq_false_iff_not]
    first
      | omega
      | (rw [sizeLine_eq]; omega)
      | (show ¬ _ > sizeLine; rw [sizeLine_eq]; omega)
  · by_cases c1 : n < 1
    · rw [if_pos c1]
      refine ⟨by decide, .str (repS z n.toNat), H, I.tok _, ?_, q⟩
      have : n.toNat = 0 := by omega
      rw [this]
      exact ⟨_, rfl⟩
    · rw [if_neg c1]
      have e : (⟨(List.replicate n.toNat z.cps).foldl (· ++ ·) #[]⟩ : Str) = repS z n.toNat := by
        unfold repS
        rw [foldl_arr]
        simp
      by_cases c2 : (n == 1 || z.length == 0) = true
      · rw [if_pos c2]
        refine ⟨.str (repS z n.toNat), H, I, ⟨t, ?_⟩, q⟩
        rw [Bool.or_eq_true] at c2
        have : repS z n.toNat = z := by
          unfold repS
          rcases c2 with c | c
          · have : n = 1 := by simpa using c
            rw [this]
            simp
          · have : z.cps = #[] := by simpa [Str.length] using c
            cases z
            simp only at this
            subst this
            simp
        rw [this]
      · rw [if_neg c2, e]
        refine ⟨?_, .str (repS z n.toNat), H, I.tok _, ⟨_, rfl⟩, q⟩
        have := hm n.toNat (by omega)
        show (repS z n.toNat).cps.size ≤ sizeLine
        unfold repS
        rw [List.size_toArray, List.length_flatten, List.map_replicate, List.sum_replicate_nat, sizeLine_eq]
        have e2 : z.cps.toList.length = z.length := by simp [Str.length]
        rw [e2, Nat.mul_comm]
        omega
theorem o_mulS {K : PySem.W.Frag} {x : Str} {n : Int} (h1 : n ≤ 1000 ∧ -1000 ≤ n) (h2 : x.length ≤ 1000) : OpD X K (binaryOp .Mult) (.str x) (.int n) (.str (repS x n.toNat)) :=
  opD_flat op_mulS (.str _) (fun _ => .str _) fun S H y z Q hx hy k => by cases hx; cases hy; exact ⟨x, n, rfl, rfl, h1.1, h1.2, h2, k⟩
/-! ### isinstance -/
def tyD : PyData → String
  | .none => "NoneType" | .bool _ => "bool" | .int _ => "int" | .str _ => "str" | .list _ => "list" | .tuple _ => "tuple" | .dict _ => "dict"
theorem tyX_of {K : PySem.W.Frag} {H : Hp} {v : V} {d : PyData} (h : Dt K H v d) : TyX K H v (.type (tyD d)) := by
  cases h with
  | non => exact .base .non
  | bl b => exact .base (.bl b)
  | int i => exact .base (.int i)
  | str x => exact .base (.str x)
  | lst h _ => exact .base (.lst h)
  | tup h _ =>
    rcases h with (h | ⟨o, h⟩) | ⟨o, its, n, h1, h2, _⟩
    · exact .base (.tup h)
    · exact .fTuple h
    · exact .kTuple h1 h2
theorem de_isi {T : String} {x : Str} {p q : Pos} {d : PyData} {k : Bool} (hm : X.mg "isinstance" = none) (hmT : X.mg x = none) (ha : DE X F g e g1 (.d d)) (hk : kitB (tyD d) T = some k) (hvT : bootBuiltins x = some (.type T) := by decide +kernel) (hg : Gl X "isinstance" := by rfl) (hgT : Gl X x := by rfl)
    (hv : bootBuiltins "isinstance" = some (.builtin "isinstance") := by decide +kernel) (hnT : x ≠ "__name__" := by decide) (hdT : (x == ("__debug__" : Str)) = false := by decide)
    (he : starEach (e :: [.Name x q]) X.env = (false, eval e X.env) :: starEach [.Name x q] X.env := by rfl) (he2 : starEach [.Name x q] X.env = (false, eval (.Name x q) X.env) :: starEach [] X.env := by rfl) (hpl : (backTo pos (starEach [.Name x q] X.env)).any (·.1) = false := by rfl) :
    DE X F g (.Call (.Name "isinstance" p) [e, .Name x q] [] pos) g1 (.d (.bool k)) := by
  refine ⟨ha.dom, fun σ H Q s q' => eS_of (pe_callB call_isi hg hm hv (pa_cons pe_s (pa_cons (pe_bltn (v := .ty T) hgT hmT hvT rfl hnT hdT) pa_nil he2) he) (by decide) (by decide) he hpl) (ha.run σ H _ s fun v H1 s1 k1 x1 => ?_)⟩
  refine ⟨v, .ty T, .type (tyD d), .type T, k, rfl, ?_, tyX_of (dp_mono unhid x1), kit_ty hk, q' _ H1 s1 k1 (Dt.bl _)⟩
  first | exact rfl | exact .ty _ | trivial | (constructor)
/-! ### {k: v, ..}[i], all written -/
def trsOf (kvs : List (Key × V)) : List (TE × TE) := kvs.map fun kv => (tC (kV kv.1), tC kv.2)
theorem tPairs_c (σ : St) : ∀ (kvs : List (Key × V)) (H : Hp) (Q : List (V × V) → Hp → Prop), Q (kvs.map fun kv => (kV kv.1, kv.2)) H → tPairs (trsOf kvs) σ H Q
  | [], H, Q, h => h
  | kv :: kvs, H, Q, h => tPairs_c σ kvs H (fun ps H2 => Q ((kV kv.1, kv.2) :: ps) H2) h
theorem de_dlit {ks : List (Option Expr)} {vs : List Expr} {dpos : Pos} {kvs : List (Key × V)} {k : Key} {v : V} {dk dv : PyData} {kr : Nat} (hp : PPs X dpos ks vs (trsOf kvs)) (hi : DE X F g a g1 (.d dk)) (hk : fl dk = kV k) (fk : flatD dk = true) (hv : valV (mergeK [] kvs) k = some v) (fv : ∀ H, Dt X.K H v dv) (hr : Room kr X.A)
    (h15 : kvs.length ≤ 15 := by decide) (hs : NoSl a := by exact fun _ _ => rfl) (h1 : ks.all (·.isSome) = true := by rfl) (h2 : ks.length = vs.length := by rfl) (h3 : ks ≠ [] := by exact fun z => nomatch z) (h4 : ks.length ≤ 15 := by decide) :
    DE X F g (.Subscript (.Dict ks vs dpos) a pos) g1 (.d dv) := by
  refine ⟨hi.dom, fun σ H Q s q => eS_of (pe_dget (hu_of hr) (pe_disp hp h1 h2 h3 h4) pe_s hs) ?_⟩
  refine fun p hp => tPairs_c σ kvs _ _ ⟨upd_same, kvs, rfl, h15, ?_⟩
  have e1 : Same H (upd (upd H p (.dK [])) p (.dK (mergeK [] kvs))) := by rw [upd_upd]; exact same_new hp
  refine hi.run σ _ _ (s.grow e1) fun x H1 s1 k1 x1 => ?_
  have hn : p ∉ F.S ++ g.dom := s.newOut hp
  have hd : H1 p = some (.dK (mergeK [] kvs)) := unhid _ _ (k1 _ _ (hid_of hn upd_same))
  refine ⟨p, v, rfl, ?_, q v H1 s1 ((hid_same e1).trans k1) (fv _)⟩
  rw [(dt_fl fk x1).1, hk, ← hv]
  exact DGet.k hd
/-! ### the script: a list known from outside -/
theorem Sat.script {K : PySem.W.Frag} {σ : St} {H : Hp} {p0 : Addr} {xs : List V} (s : Sat K F g σ H) (hq : SqL K F.H0 p0 xs) (hM : F.M = []) (hS : F.S = []) : SqL K (F.hd g H) p0 xs := by
  have key : ∀ o, F.H0 p0 = some o → F.hd g H p0 = some o := fun o h => by
    refine hid_of (fun m => ?_) (s.ex p0 o h (by rw [hM]; simp))
    rw [hS, List.nil_append] at m
    rcases s.fr p0 m with y | y
    · rw [y] at h; cases h
    · rw [hM] at y; simp at y
  rcases hq with (h | ⟨o, h⟩) | h
  · exact .inl (.inl (key _ h))
  · exact .inl (.inr ⟨o, key _ h⟩)
  · exact .inr h
theorem di_script (i : Nat) {x : Str} {p0 : Addr} {ns : List Int} {pos : Pos} (hq : SqL X.K F.H0 p0 (ns.map V.int)) (hM : F.M = []) (hS : F.S = []) (hs : g.sl[i]? = some (.v (.ref p0)) := by rfl) (hN : X.N[i]? = some x := by rfl) (hv : Vis X.env.scope x := by first | exact Or.inl rfl | exact Or.inr (Or.inl rfl) | exact Or.inr (Or.inr rfl)) (hd : (x == ("__debug__" : Str)) = false := by decide)
    (hcd : (x == ("__classdict__" : Str)) = false := by decide) : DI X F g tg (.Name x pos) g (ns.map .int) := by
  refine ⟨rfl, fun σ H R s q => iS_of (pi_list (pe_var (i := i) hN hv hd hcd)) ?_⟩
  obtain ⟨o, h1, h2⟩ := sat_slot s hs
  have eo : o = some (V.ref p0) := h2
  subst eo
  have hq1 := s.script hq hM hS
  refine ⟨_, h1, p0, rfl, ⟨_, same_l unhid hq1⟩, q _ H s (Same.refl _) ⟨fun j H2 T d e m hj => ?_, fun j H2 T e hj => ⟨_, same_l unhid (same_l e hq1), by simpa using hj⟩⟩⟩
  have hq2 := same_l unhid (same_l e hq1)
  rw [List.getElem?_map] at hj
  cases hn : ns[j]? with
  | none => rw [hn] at hj; cases hj
  | some n =>
    rw [hn] at hj
    cases hj
    have hv : (ns.map V.int)[j]? = some (V.int n) := by rw [List.getElem?_map, hn]; rfl
    refine ⟨⟨_, _, hq2, hv⟩, fun y H' hy => ?_⟩
    obtain ⟨rfl, hy⟩ := hy
    have := hy _ hq2
    rw [hv] at this
    cases this
    exact ⟨Same.refl _, Dt.int _⟩
end DL
end L2
set_option Elab.async false
set_option linter.all false
set_option maxRecDepth 100000
set_option maxHeartbeats 4000000
namespace L2
namespace DL
open PySem PySem.Spec PyProof.Rows
section
variable {X : Cx} {F : Fm} {g g1 g2 : G} {a : Expr} {pos : Pos}
/-- list(range(n)) -/
theorem dn_listRg {j : Int} {p p2 pos2 : Pos} (hl : X.mg "list" = none) (hm : X.mg "range" = none) (h : DE X F g a g1 (.d (.int j))) (hj : 0 ≤ j ∧ j ≤ 1000) (hc : X.calm = true := by rfl) (hg : Gl X "list" := by rfl) (hg2 : Gl X "range" := by rfl)
    (na : starEach [a] X.env = (false, eval a X.env) :: starEach [] X.env := by rfl) (nb : starEach [.Call (.Name "range" p2) [a] [] pos2] X.env = (false, eval (.Call (.Name "range" p2) [a] [] pos2) X.env) :: starEach [] X.env := by rfl) :
    DN X F g (.Call (.Name "list" p) [.Call (.Name "range" p2) [a] [] pos2] [] pos) g1 (.lst ((upTo 0 j.toNat).map .d)) := by
  refine ⟨h.dom, fun σ H Q s q => eS_of (pe_listRg hc hg hl (prg_1 hg2 hm pe_s na) nb) (h.run σ H _ s fun v H1 s1 k1 x1 => ?_)⟩
  cases x1
  refine ⟨j, rfl, ⟨by omega, by omega, by omega, by omega, by omega⟩, fun p hp => dn_at h.dom s1 k1 p hp ?_ q⟩
  have e1 : rgV 0 j = ((List.range j.toNat).map fun i => (0 + ((i : Nat) : Int))).map V.int := by
    unfold rgV
    rw [List.map_map, Int.sub_zero]
    rfl
  have e2 : upTo 0 j.toNat = ((List.range j.toNat).map fun i => (0 + ((i : Nat) : Int))).map PyData.int := by
    unfold upTo
    rw [List.map_map]
    rfl
  rw [e1, e2]
  exact ints_of _
end
end DL
end L2
set_option Elab.async false
set_option linter.all false
set_option maxRecDepth 100000
set_option maxHeartbeats 4000000
namespace L2
namespace DL
open PySem PySem.Spec PyProof.Rows
section
variable {X : Cx} {F : Fm} {g g1 g2 g3 : G} {e a b c : Expr} {es : List Expr} {r s t : Sl} {pos p2 tpos : Pos} {rest : List Stmt} {z : Z}
theorem dn_ifR {k : Bool} {od : OD} (hc : DT X F g c g1 k) (ha : k = true → DN X F g1 a g2 od) (hb : k = false → DN X F g1 b g2 od) : DN X F g (.IfExp c a b pos) g2 od := by
  have hd : g2.dom = g.dom := by
    cases k with
    | true => exact (ha rfl).dom.trans hc.dom
    | false => exact (hb rfl).dom.trans hc.dom
  refine ⟨hd, fun σ H Q s q => eS_of (pe_ifExp pt_s pe_s pe_s) (hc.run σ H _ s fun H1 s1 k1 => ?_)⟩
  cases k with
  | true =>
    refine (ha rfl).run σ H1 Q s1 fun p H2 hM hn h0 s2 k2 => ?_
    rw [hc.dom] at hn
    rw [hd_dom hc.dom, hc.dom] at k2
    exact q p H2 hM hn h0 s2 (k1.trans k2)
  | false =>
    refine (hb rfl).run σ H1 Q s1 fun p H2 hM hn h0 s2 k2 => ?_
    rw [hc.dom] at hn
    rw [hd_dom hc.dom, hc.dom] at k2
    exact q p H2 hM hn h0 s2 (k1.trans k2)
/-! xs[a:c] = ys -/
def gSubSl (to : TE) (tl th : TO) : TG := fun v σ H Q => to σ H fun x H1 => tl σ H1 fun l H2 => th σ H2 fun u H3 => ∃ (p q : Addr) (xs ys : List V) (a c : Int), x = .ref p ∧ v = .ref q ∧ l = some a ∧ u = some c ∧ H3 p = some (.lst xs) ∧ H3 q = some (.lst ys) ∧ p ≠ q ∧ 0 ≤ a ∧ a ≤ c ∧ c ≤ xs.length ∧ xs.length + ys.length ≤ sizeLine ∧ Q σ (upd H3 p (.lst (xs.take a.toNat ++ ys ++ xs.drop c.toNat)))
theorem pg_subSl {o : Expr} {lo hi : Option Expr} {to : TE} {tl th : TO} (ho : PE X o to) (hl : PO X lo tl) (hu : PO X hi th)
    (ha : ∀ v, assign (.Subscript o (.Slice lo hi none p2) tpos) X.env v = (do
      let ov ← holding [v] (eval o X.env)
      let iv ← holding [v, ov] (eval (.Slice lo hi none p2) X.env)
      standAt tpos
      holding [v, ov, iv] (setItem ov iv v)
      release [iv, v, ov] []) := by intro _; rfl) : PG X (.Subscript o (.Slice lo hi none p2) tpos) (gSubSl to tl th) := by
  refine ⟨fun pins s σ H v u Q I r h => ?_⟩
  rw [ha]
  refine wpAny_bind (wpAny_holding (thn (ho.run pins s σ H _ I h) fun ov s1 ⟨x, H1, I1, r1, q1⟩ => ?_))
  refine wpAny_bind (wpAny_holding (wpAny_Slice (thn (hl.run pins s1 σ H1 _ I1 q1) fun vl s2 ⟨l, H2, I2, pl, q2⟩ => thn (hu.run pins s2 σ H2 _ I2 q2) fun vu s3 ⟨w, H3, I3, pu, q3⟩ => ?_)))
  rw [evalPart_none]
  refine wpAny_pure ?_
  have I4 : Inv X pins σ H3 { s3 with heap := s3.heap.push { cls := .type "slice", data := .fields #[vl, vu, .none] } } := I3.kept (t' := s3.toks) fun b ob q => Heap.get?_push_of_some _ q
  obtain ⟨p, q, xs, ys, i, k, rfl, rfl, rfl, rfl, hp, hq, hne, h0, hac, hc, hz, hQ⟩ := q3
  cases r1
  cases r
  cases pl
  cases pu
  refine wpAny_bind (wpAny_standAt (wpAny_bind (wpAny_holding (set_slice I4 hp hq hne (Heap.IsSliceOf.new ..) ⟨_, rfl⟩ ⟨_, rfl⟩ h0 hac hc hz fun s' I5 => ?_))))
  exact wpAny_release ⟨σ, _, I5, hQ⟩
theorem paired_take {α β : Type} {R : α → β → Prop} : ∀ {xs : List α} {ys : List β} (n : Nat), Paired R xs ys → Paired R (xs.take n) (ys.take n)
  | _, _, 0, _ => by rw [List.take_zero, List.take_zero]; exact .nil
  | _, _, n + 1, .nil => .nil
  | _, _, n + 1, .cons h t => .cons h (paired_take n t)
theorem paired_drop {α β : Type} {R : α → β → Prop} : ∀ {xs : List α} {ys : List β} (n : Nat), Paired R xs ys → Paired R (xs.drop n) (ys.drop n)
  | _, _, 0, h => h
  | _, _, n + 1, .nil => .nil
  | _, _, n + 1, .cons h t => paired_drop n t
theorem ds_setSl {o lo hi : Expr} {p : Addr} {j i k : Nat} {xs : List Sl} {ys : List PyData} (he : DN X F g e g1 (.lst (ys.map .d)))
    (ho : ∀ q, DE X F ⟨g1.sl, g1.ow ++ [(q, .lst (ys.map .d))]⟩ o ⟨g1.sl, g1.ow ++ [(q, .lst (ys.map .d))]⟩ (.v (.ref p)))
    (hl : ∀ q, DE X F ⟨g1.sl, g1.ow ++ [(q, .lst (ys.map .d))]⟩ lo ⟨g1.sl, g1.ow ++ [(q, .lst (ys.map .d))]⟩ (.d (.int i)))
    (hu : ∀ q, DE X F ⟨g1.sl, g1.ow ++ [(q, .lst (ys.map .d))]⟩ hi ⟨g1.sl, g1.ow ++ [(q, .lst (ys.map .d))]⟩ (.d (.int k)))
    (hj : g1.ow[j]? = some (p, .lst xs)) (hik : i ≤ k) (hk : k ≤ xs.length) (hz : xs.length + ys.length ≤ 1000)
    (kk : DS X F ⟨g1.sl, g1.ow.set j (p, .lst (xs.take i ++ ys.map .d ++ xs.drop k))⟩ rest z)
    (ha : ∀ v, assign (.Subscript o (.Slice (some lo) (some hi) none p2) tpos) X.env v = (do
      let ov ← holding [v] (eval o X.env)
      let iv ← holding [v, ov] (eval (.Slice (some lo) (some hi) none p2) X.env)
      standAt tpos
      holding [v, ov, iv] (setItem ov iv v)
      release [iv, v, ov] []) := by intro _; rfl)
    (hs : swapsWithSole [.Subscript o (.Slice (some lo) (some hi) none p2) tpos] e pos.line X.env = pure false := by rfl) (hw : swappedStores [.Subscript o (.Slice (some lo) (some hi) none p2) tpos] e X.env = pure none := by rfl) (h1 : (assignEach [.Subscript o (.Slice (some lo) (some hi) none p2) tpos] X.env).map (·.2) = [assign (.Subscript o (.Slice (some lo) (some hi) none p2) tpos) X.env] := by rfl) :
    DS X F g (.Assign [.Subscript o (.Slice (some lo) (some hi) none p2) tpos] e pos :: rest) z := DS.mk fun σ H D s zk => by
  refine uS_of (pss_cons (ps_asg pe_s (pg_subSl pe_s po_s po_s ha) hs hw h1) pss_s) (he.run σ H _ s fun q H1 hM hn h0 s1 k1 => (ho q).run σ H1 _ s1 fun ov H2 s2 k2 x2 => (dp_some (hl q)).run σ H2 _ s2 fun H3 s3 k3 => (dp_some (hu q)).run σ H3 _ s3 fun H4 s4 k4 => ?_)
  have ev : some ov = some (V.ref p) := x2
  cases ev
  have jl : j < g1.ow.length := (List.getElem?_eq_some_iff.mp hj).1
  have hj2 : (g1.ow ++ [(q, OD.lst (ys.map .d))])[j]? = some (p, .lst xs) := by rw [List.getElem?_append_left jl]; exact hj
  have hq2 : (g1.ow ++ [(q, OD.lst (ys.map .d))])[g1.ow.length]? = some (q, .lst (ys.map .d)) := by rw [List.getElem?_append_right (Nat.le_refl _), Nat.sub_self]; rfl
  obtain ⟨u, u1, ws, rfl, u2⟩ := s4.own (g := ⟨g1.sl, g1.ow ++ [(q, OD.lst (ys.map .d))]⟩) hj2
  obtain ⟨u', u1', vs, rfl, u2'⟩ := s4.own (g := ⟨g1.sl, g1.ow ++ [(q, OD.lst (ys.map .d))]⟩) hq2
  have hne : p ≠ q := fun e => by
    subst e
    refine hn (List.mem_append_right _ ?_)
    rw [← he.dom]
    exact mem_dom hj
  have l1 := paired_length u2
  have l2 := paired_length u2'
  rw [List.length_map] at l2
  refine ⟨p, q, ws, vs, i, k, rfl, rfl, rfl, rfl, u1, u1', hne, by omega, by omega, by omega, Nat.le_trans (by omega) (show 1000 ≤ sizeLine by decide), ?_⟩
  have pd : p ∈ F.S ++ G.dom ⟨g1.sl, g1.ow ++ [(q, OD.lst (ys.map .d))]⟩ := List.mem_append_right _ (mem_dom hj2)
  have eh : F.hd ⟨g1.sl, g1.ow ++ [(q, OD.lst (ys.map .d))]⟩ (upd H4 p (.lst (ws.take (i : Int).toNat ++ vs ++ ws.drop (k : Int).toNat))) = F.hd ⟨g1.sl, g1.ow ++ [(q, OD.lst (ys.map .d))]⟩ H4 := hid_upd_in pd
  obtain ⟨s5, _⟩ := s4.put (H' := upd H4 p (.lst (ws.take (i : Int).toNat ++ vs ++ ws.drop (k : Int).toNat))) (o' := .lst (ws.take (i : Int).toNat ++ vs ++ ws.drop (k : Int).toNat)) hj2 (fun b o nb e => by rw [upd_ne nb]; exact e) upd_same (od' := .lst (xs.take i ++ ys.map .d ++ xs.drop k)) ⟨_, rfl, by
    rw [eh, Int.toNat_natCast, Int.toNat_natCast]
    exact paired_append (paired_append (paired_take _ u2) u2') (paired_drop _ u2)⟩
  have hq3 : ((g1.ow ++ [(q, OD.lst (ys.map .d))]).set j (p, .lst (xs.take i ++ ys.map .d ++ xs.drop k)))[g1.ow.length]? = some (q, .lst (ys.map .d)) := by
    rw [List.getElem?_set_ne (by omega)]
    exact hq2
  obtain ⟨s6, _⟩ := s5.share (g := ⟨g1.sl, (g1.ow ++ [(q, OD.lst (ys.map .d))]).set j (p, .lst (xs.take i ++ ys.map .d ++ xs.drop k))⟩) hq3 hM
  have e6 : ((g1.ow ++ [(q, OD.lst (ys.map .d))]).set j (p, .lst (xs.take i ++ ys.map .d ++ xs.drop k))).eraseIdx g1.ow.length = g1.ow.set j (p, .lst (xs.take i ++ ys.map .d ++ xs.drop k)) := by
    rw [List.set_append_left _ _ jl, List.eraseIdx_append_of_length_le (by rw [List.length_set]; exact Nat.le_refl _), List.length_set, Nat.sub_self]
    simp
  rw [e6] at s6
  exact kk σ _ D s6 zk
end
end DL
end L2
set_option Elab.async false
set_option linter.all false
set_option maxRecDepth 100000
set_option maxHeartbeats 4000000
namespace L2
namespace DL
open PySem PySem.Spec PyProof.Rows
section
variable {X : Cx} {F : Fm} {g g1 : G} {e : Expr} {pos : Pos}
theorem de_index {o : Expr} {apos : Pos} {ds : List PyData} {d : PyData} {j : Nat} {zz : PyData} (ho : DE X F g o g (.d (.list ds))) (he : DE X F g e g1 (.d d)) (fd : flatD d = true) (fs : ds.all flatD = true) (hj : ds[j]? = some zz) (e1 : eqV (fl zz) (fl d) = true)
    (e2 : ∀ m z', m < j → ds[m]? = some z' → eqV (fl z') (fl d) = false) (hst : starEach (e :: []) X.env = (false, eval e X.env) :: starEach [] X.env := by rfl)
    (hp : PE X (.Call (.Attribute o "index" apos) [e] [] pos) (tBM X.K "list" (rIndex X.K) (eS X o) (aS X [e])) := by exact pe_bm PySem.F.plainAttrs_list PySem.F.slot_list_index PySem.F.type_list_index mt_index pe_s pa_s) :
    DE X F g (.Call (.Attribute o "index" apos) [e] [] pos) g1 (.d (.int (j : Nat))) := by
  refine ⟨he.dom, fun σ H Q s q => eS_of hp (ho.run σ H _ s fun v H1 s1 k1 x1 => ?_)⟩
  have x1 : Dt X.K (F.hd g H1) v (.list ds) := x1
  cases x1 with
  | lst h1 h2 =>
    refine ⟨.inl ⟨rfl, _, SqL.of (unhid _ _ h1)⟩, aS_of (pa_cons pe_s pa_nil hst) (he.run σ H1 _ s1 fun y H2 s2 k2 x2 => ?_)⟩
    obtain ⟨a1, a2⟩ := dt_fl fd x2
    obtain ⟨b1, b2⟩ := dtAll_fl fs h2
    subst b1
    refine ⟨_, _, y, j, fl zz, rfl, rfl, SqL.of (unhid _ _ (k2 _ _ h1)), a2, b2, by rw [List.getElem?_map, hj]; rfl, by rw [a1]; exact e1, fun m z' hm hz => ?_, ?_⟩
    · rw [List.getElem?_map] at hz
      cases hc : ds[m]? with
      | none => rw [hc] at hz; cases hz
      | some z2 =>
        rw [hc] at hz
        cases hz
        rw [a1]
        exact e2 m z2 hm hc
    · exact q _ H2 s2 (k1.trans k2) (Dt.int _)
end
theorem inV_bools (x : Bool) (xs : List Bool) : inV (.bl x) (xs.map V.bl) = decide (x ∈ xs) := by
  unfold inV
  induction xs with
  | nil => simp
  | cons y ys ih =>
    rw [List.map_cons, List.any_cons, ih]
    by_cases e : x = y
    · subst e; simp [eqV]
    · simp [eqV, e, Ne.symm e]
end DL
end L2
set_option Elab.async false
set_option linter.all false
set_option maxRecDepth 100000
set_option maxHeartbeats 1000000
namespace L2
namespace DL
open PySem PySem.Spec PyProof.Rows PySem.SeqAt
theorem vals_at {vs : List V} {us : List Value} (h : Vals vs us) {i : Nat} {u : Value} (e : us[i]? = some u) : ∃ v, vs[i]? = some v ∧ RelV v u := by
  induction h generalizing i with
  | nil => cases e
  | cons r t ih =>
    cases i with
    | zero => cases e; exact ⟨_, rfl, r⟩
    | succ i => exact ih e
theorem dtAll_get {K : PySem.W.Frag} {H : Hp} : ∀ {vs : List V} {ds : List PyData} {i : Nat} {d : PyData}, DtAll K H vs ds → ds[i]? = some d → ∃ v, vs[i]? = some v ∧ Dt K H v d
  | [], [], _, _, .nil, e => by simp at e
  | _ :: _, _ :: _, 0, _, .cons h _, e => by cases e; exact ⟨_, rfl, h⟩
  | _ :: _, _ :: _, i + 1, _, .cons _ t, e => by
    rw [List.getElem?_cons_succ] at e
    obtain ⟨v, h1, h2⟩ := dtAll_get t e
    exact ⟨v, by rw [List.getElem?_cons_succ]; exact h1, h2⟩
section
variable {X : Cx}
/-- the best of a list of data -/
theorem cd_minL {x : PyData} {xs : List PyData} (ha : PySem.W.AlikeAll (x :: xs)) (hs : SeqAt.shaped (.list (x :: xs)) = true) (hu : X.A.units + 65 < cLine) (hc : X.calm = true := by rfl) : CallD X (.builtin "min") [.list (x :: xs)] (PySem.W.minD x xs) := by
  refine ⟨fun vs H Q => ∃ (a : Addr) (ws : List V), vs = [V.ref a] ∧ SqL X.K H a ws ∧ DpAll X.K H ws (x :: xs) ∧ ∀ (i : Nat) (w : V), ws[i]? = some w → (x :: xs)[i]? = some (PySem.W.minD x xs) → Q w H, ?_, ?_⟩
  · intro pins s σ H vs us Q I r h
    obtain ⟨a, ws, rfl, h1, h2, q⟩ := h
    obtain ⟨its, rv, hl, _⟩ := I.list h1
    obtain ⟨as, h4⟩ := Dp.readsAll I (x :: xs) ws its h2 rv
    rw [Vals.ref1 r]
    refine PySem.W.min_list_data (I.ok.hd hc) hl.isList (show ReadsAll s.heap its.toArray.toList (x :: xs) as from h4) ha ?_ fun i v h' tk bs hv rd hk => ?_
    · have h1 := SeqAt.depth_of_shaped hs
      have h3 : (PyData.list (x :: xs)).depth = PyData.depthAll (x :: xs) + 1 := rfl
      omega
    · have hv' : its[i]? = some v := by simpa using hv
      obtain ⟨w, hw, rw'⟩ := vals_at rv hv'
      obtain ⟨bs', rb, hi, hm, _⟩ := PySem.W.readsAll_at h4 i v hv'
      have e := (PyProof.Rows.reads_det (fun b o z _ => hk b o z) rb rd).1
      exact ⟨w, H, I.kept hk, rw', q i w hw (by rw [e, List.getElem?_eq_getElem hi]; simp [List.getD_eq_getElem?_getD, List.getElem?_eq_getElem hi])⟩
  · intro S H vs Q hx k m
    cases hx with
    | cons h1 h2 =>
      cases h2
      cases h1 with
      | lst a1 a2 =>
        refine ⟨_, _, rfl, SqL.of (unhid _ _ a1), dt_dpAll (dpAll_mono unhid a2), fun i w hw hd => ?_⟩
        obtain ⟨w', e1, e2⟩ := dtAll_get a2 hd
        rw [hw] at e1
        cases e1
        exact k w H (Same.refl H) m e2
/-- the greatest of a tuple of data -/
theorem cd_maxT {x : PyData} {xs : List PyData} (ha : PySem.W.AlikeAll (x :: xs)) (hs : SeqAt.shaped (.tuple (x :: xs)) = true) (hu : X.A.units + 65 < cLine) (hc : X.calm = true := by rfl) : CallD X (.builtin "max") [.tuple (x :: xs)] (PySem.W.maxD x xs) := by
  refine ⟨fun vs H Q => ∃ (a : Addr) (ws : List V), vs = [V.ref a] ∧ SqT X.K H a ws ∧ DpAll X.K H ws (x :: xs) ∧ ∀ (i : Nat) (w : V), ws[i]? = some w → (x :: xs)[i]? = some (PySem.W.maxD x xs) → Q w H, ?_, ?_⟩
  · intro pins s σ H vs us Q I r h
    obtain ⟨a, ws, rfl, h1, h2, q⟩ := h
    obtain ⟨its, rv, hl, _⟩ := I.tuple h1
    obtain ⟨as, h4⟩ := Dp.readsAll I (x :: xs) ws its h2 rv
    rw [Vals.ref1 r]
    refine PySem.W.max_tuple_data (I.ok.hd hc) (show s.heap.IsTuple a its.toArray from hl) (show ReadsAll s.heap its.toArray.toList (x :: xs) as from h4) ha ?_ fun i v h' tk bs hv rd hk => ?_
    · have h1 := SeqAt.depth_of_shaped hs
      have h3 : (PyData.tuple (x :: xs)).depth = PyData.depthAll (x :: xs) + 1 := rfl
      omega
    · have hv' : its[i]? = some v := by simpa using hv
      obtain ⟨w, hw, rw'⟩ := vals_at rv hv'
      obtain ⟨bs', rb, hi, hm, _⟩ := PySem.W.readsAll_at h4 i v hv'
      have e := (PyProof.Rows.reads_det (fun b o z _ => hk b o z) rb rd).1
      exact ⟨w, H, I.kept hk, rw', q i w hw (by rw [e, List.getElem?_eq_getElem hi]; simp [List.getD_eq_getElem?_getD, List.getElem?_eq_getElem hi])⟩
  · intro S H vs Q hx k m
    cases hx with
    | cons h1 h2 =>
      cases h2
      cases h1 with
      | tup a1 a2 =>
        refine ⟨_, _, rfl, same_t unhid a1, dt_dpAll (dpAll_mono unhid a2), fun i w hw hd => ?_⟩
        obtain ⟨w', e1, e2⟩ := dtAll_get a2 hd
        rw [hw] at e1
        cases e1
        exact k w H (Same.refl H) m e2
end
end DL
end L2
set_option Elab.async false
set_option linter.all false
set_option maxRecDepth 100000
set_option maxHeartbeats 1000000
namespace L2
namespace DL
open PySem PySem.Spec PyProof.Rows
section
variable {X : Cx} {o e : Expr} {es : List Expr} {ta : TA} {p1 p2 pos : Pos}
/-- C.__init__(self, ..), C an own exception class without __init__ over ValueError -/
theorem pe_oinit {x : Str} {S : Addr} {mc : Value} {pl : Sem Bool} (hg : Gl X x) (hm : X.mg x = some (.ref S)) (sg : PySem.W.specialIn X.K (.ref S) "__getattribute__" = some (some (.builtin "type.__getattribute__"))) (rd : PySem.W.readsIn X.K S mc = true)
    (fc : PySem.W.findCls X.K (.ref S) mc "__init__" = some (.val (.builtin "ValueError.__init__"))) (ha : PA X (e :: es) ta) (hdb : (x == ("__debug__" : Str)) = false := by decide)
    (hc : eval (.Call (.Attribute (.Name x p1) "__init__" p2) (e :: es) [] pos) X.env = (do
      let ov ← eval (.Name x p1) X.env
      standAt p2.atName
      let (f, first) ← holding [ov] (getMethod ov "__init__" pl)
      callWith pos f first (backTo pos (starEach (e :: es) X.env)) (backToKw pos (keywordEach [] X.env))) := by rfl)
    (he : starEach (e :: es) X.env = (false, eval e X.env) :: starEach es X.env := by rfl) (hpl : (backTo pos (starEach es X.env)).any (·.1) = false := by rfl) :
    PE X (.Call (.Attribute (.Name x p1) "__init__" p2) (e :: es) [] pos) (tVeI X.K ta) := by
  refine ⟨fun pins s σ H Q I h => ?_⟩
  refine PySem.W.methodCall_KW (ld_glob I hg hm ?_ hdb) hc
  refine PySem.W.method_cls I.kIn sg (PySem.W.cls_value I.kIn rd fc (by decide +kernel) ?_)
  show wpAny _ _ (callWith pos (Value.builtin "ValueError.__init__") [] (backTo pos (starEach (e :: es) X.env)) []) _ _ _
  refine PyProof.Rows.callWith_method1 (thn (ha.run pos pins _ σ H _ (I.tok _) h) fun us s1 ⟨vs, H1, I1, r1, a, C, ws, ev, hl, T, ea, q⟩ => ?_) he hpl
  subst ev
  cases r1 with
  | @cons _ u0 _ ur ra rw' =>
    obtain rfl : u0 = Value.ref a := ra
    have hlen : ur.length ≤ sizeLine := by
      rw [← Paired.length rw', sizeLine_eq]
      omega
    exact oinit_ok T I1 ea hlen fun s' J => ⟨.non, H1, J, rfl, q⟩
end
section
variable {X : Cx} {CX : CXT} {x : Str} {e : Expr} {es : List Expr} {ta : TA} {p pos : Pos} {C fI : Addr} {k : Nat} {fd : FuncData} {ps : List Str} {sp : Sp}
/-- C(e, ..) of an own exception class whose __init__ is walked; nothing is handled -/
theorem pmk_oexN (T : OexC X.K C) (iC : PySem.W.findIn X.K (.ref C) "__init__" = some (some (.ref fI))) (tI : PySem.W.typeIn X.K (.ref fI) = some (.type "function"))
    (F1 : FnOk X.prog X.w X.K X.mg X.base CX k fI fd ps sp) (hr : Room (k + 1) X.A) (hb : Binds X.K fd ps []) (hx : Passes CX X (fun _ _ _ => False)) (hg : Gl X x) (hm : X.mg x = some (.ref C)) (ha : PA X (e :: es) ta)
    (hdb : (x == ("__debug__" : Str)) = false := by decide) (he : starEach (e :: es) X.env = (false, eval e X.env) :: starEach es X.env := by rfl) (hpl : (backTo pos (starEach es X.env)).any (·.1) = false := by rfl) :
    L2N.PMk X (.Call (.Name x p) (e :: es) [] pos) (tMkO C sp [] ta) := by
  intro pins s σ H Q I h
  obtain ⟨_, _, _, _, bm, _, _, _, _, _, _, _, _, _, _, hC, hbm⟩ := T.cls
  refine wpAny_Call_Name_kw (ld_glob I hg hm (PySem.W.callWith_K (h₀ := X.base) I.ok.mod.kin T.kC (thn (ha.run pos pins s σ H _ I h) fun us s1 ⟨vs, H1, I1, r1, hz, q1⟩ => ⟨I1.kIn, ?_⟩) he hpl) hdb)
  show wpAny _ _ (call (.ref C) us) _ _ _
  obtain ⟨hp, g, dr, tk, os⟩ := s1
  have hsz : hp.objs.size ≤ hp.objs.size + 1 := Nat.le_succ _
  have kk : ∀ b o, hp.get? b = some o → ((hp.push (PySem.W.kdv_tup us)).push (PySem.HandSPX.excO C hp.objs.size)).get? b = some o := fun b o e => Heap.get?_push_of_some _ (Heap.get?_push_of_some _ e)
  have I2 := I1.laid (t' := tk) (a := hp.objs.size + 1) (o := exo (hp.objs.size + 1) C none) kk hsz (exo_ok (by heap_get))
  have hq := q1 (hp.objs.size + 1) (I1.hok.fresh hsz)
  rw [List.append_nil] at hq
  have r2 : Vals (V.ref (hp.objs.size + 1) :: vs) (Value.ref (hp.objs.size + 1) :: us) := .cons rfl r1
  have b2 := hb _ (Value.ref (hp.objs.size + 1) :: us) I2.kIn (by rw [List.append_nil, ← r2.length]; exact F1.len _ _ _ _ hq)
  rw [List.append_nil] at b2
  have hus : us.length ≤ sizeLine := by rw [← Paired.length r1, sizeLine_eq]; omega
  refine wpAny_call (PySem.HandSPX.call_own F.excBase_ValueError (fun Y => PySem.HandSPX.refsVE_contains Y bm hbm) (I1.kIn _ _ hC) (PySem.W.looks_findIn I1.kIn iC) (fun self => PySem.W.bind_fn I1.kIn self tI) hus
    (codeAny_mono (F1.run _ X.stack _ _ ⟨Value.ref (hp.objs.size + 1) :: us, []⟩ _ _ _ _ (hr.make C us []) (I2.env0.make C us []) b2 r2 hq) fun r s' hq' => ?_))
  match r, hq' with
  | .error er, hq' => exact hx pins σ _ _ er s' I2 hq'
  | .ok .next, hq' => exact False.elim hq'
  | .ok .brk, hq' => exact False.elim hq'
  | .ok .cont, hq' => exact False.elim hq'
  | .ok (.ret u), hq' =>
    obtain ⟨v, H2, os2, bare2, un2, hok2, rv, ev, d, fs, ea, ed, hd1, q2⟩ := hq'
    subst ev
    obtain ⟨h2, g2, d2, t2, os'⟩ := s'
    obtain ⟨t0, G, J, kG, ge, hoe, na⟩ := mk_end0 (d2 := d2) (t2 := t2) I1 hsz kk un2 hok2 os2 bare2 ea ed hd1
    exact ⟨rv, hp.objs.size + 1, _, _, ⟨G, g2, d2, t2, os'⟩, _, .ref C, some d, rfl, J, kG, ge, hoe, ⟨rfl, rfl, fun vs hv => by cases hv; rfl⟩, rfl, rfl, na, rfl, bare2, raises_own T.exC T.tyC, q2⟩
end
/-! ### promises of defs that may raise -/
inductive Out where
  | ok (d : PyData)
  | ex (C : Addr) (fs : Option (List (Str × PyData)))
def spR (K : PySem.W.Frag) (R : List PyData → Out → Prop) : Sp := fun vs H Q E => ∃ (S : List Addr) (ds : List PyData) (o : Out), (∀ a ∈ S, H a ≠ none) ∧ DtAll K (hid S H) vs ds ∧ R ds o ∧
  match o with
  | .ok d => ∀ v H', Same H H' → Dt K (hid S H') v d → Q v H'
  | .ex C fs => ∀ dd H', Same H H' → ExOk K (hid S H') fs dd → E (.ref C) dd H'
/-- a def that may raise, by its name -/
structure CalR (P : Program) (w : World) (K : PySem.W.Frag) (mg : Str → Option Value) (base : Heap) (k : Nat) (x : Str) (sp : Sp) : Prop where
  ex : ∃ f fd ps, FnOk P w K mg base (L2N.CX P w) k f fd ps sp ∧ mg x = some (.ref f) ∧ PySem.W.keepIn K (.ref f) = true ∧ Binds K fd ps []
section
variable {X : Cx} {F : Fm} {g g1 g2 : G} {e : Expr} {es : List Expr} {pos p : Pos} {rest : List Stmt} {z : Z} {tg : Expr}
/-- the call at the level of readings -/
theorem eS_callR {x : Str} {sp : Sp} {j k : Nat} (C : CalR X.prog X.w X.K X.mg X.base j x sp) (hr : Room k X.A) (hk : j ≤ k) (hg : Gl X x) (hdb : (x == ("__debug__" : Str)) = false) (he : starEach (e :: es) X.env = (false, eval e X.env) :: starEach es X.env)
    (hpl : (backTo pos (starEach es X.env)).any (·.1) = false) {σ : St} {H : Hp} {Q : VK} (h : aS X (e :: es) σ H fun vs H1 => sp vs H1 Q (fun cls d H' => XEnd X cls d σ H')) : eS X (.Call (.Name x p) (e :: es) [] pos) σ H Q := by
  obtain ⟨f, fd, ps, G, hm, kp, b⟩ := C.ex
  exact eS_of (pe_callS (E := fun σ cls d H' => XEnd X cls d σ H') G (hr.mono hk) hg hm kp b (fun σ => L2N.passAt takes_xend σ) pa_s hdb he hpl) h
/-- an expression that gives data or raises -/
structure DR (X : Cx) (F : Fm) (g : G) (e : Expr) (g' : G) (o : Out) : Prop where
  dom : g'.dom = g.dom
  run : ∀ σ H (Q : VK), Sat X.K F g σ H → (match o with
    | .ok d => ∀ v H', Sat X.K F g' σ H' → Same (F.hd g H) (F.hd g H') → SlOk X.K (F.hd g H') (some v) (.d d) → Q v H'
    | .ex C fs => ∀ dd H', Sat X.K F g' σ H' → ExOk X.K (F.hd g' H') fs dd → XEnd X (.ref C) dd σ H') → eS X e σ H Q
theorem dr_ok {d : PyData} (h : DE X F g e g1 (.d d)) : DR X F g e g1 (.ok d) := ⟨h.dom, fun σ H Q s q => h.run σ H Q s fun v H' s' k x => q v H' s' k x⟩
theorem dr_call {x : Str} {R : List PyData → Out → Prop} {ds : List PyData} {o : Out} {j k : Nat} (C : CalR X.prog X.w X.K X.mg X.base j x (spR X.K R)) (hr : Room k X.A) (ha : DAd X F g (e :: es) g1 ds) (hR : R ds o) (hk : j ≤ k := by decide) (hg : Gl X x := by rfl)
    (hdb : (x == ("__debug__" : Str)) = false := by decide) (he : starEach (e :: es) X.env = (false, eval e X.env) :: starEach es X.env := by rfl) (hpl : (backTo pos (starEach es X.env)).any (·.1) = false := by rfl) : DR X F g (.Call (.Name x p) (e :: es) [] pos) g1 o := by
  refine ⟨ha.dom, fun σ H Q s q => eS_callR C hr hk hg hdb he hpl (ha.run σ H _ s fun vs H1 s1 k1 x1 => ?_)⟩
  refine ⟨F.S ++ g.dom, ds, o, fun a m => s1.hidIn (by rw [ha.dom]; exact m), x1, hR, ?_⟩
  cases o with
  | ok d => exact fun v H' e' x' => q v H' (s1.grow e') (k1.trans (hid_same e')) x'
  | ex C fs => exact fun dd H' e' x' => q dd H' (s1.grow e') (by rw [hd_dom ha.dom]; exact x')
theorem ds_exprR {o : Out} (he : DR X F g e g1 o) (k1 : ∀ d, o = .ok d → DS X F g1 rest z) (k2 : ∀ C fs, o = .ex C fs → z.ex g1 C fs) (hs : swapsWith e none pos.line X.env = pure false := by rfl) : DS X F g (.Expr e pos :: rest) z := DS.mk fun σ H D s zk => by
  refine uS_of (pss_cons (ps_expr pe_s hs) pss_s) (he.run σ H _ s ?_)
  cases o with
  | ok d => exact fun v H1 s1 _ _ => k1 d rfl σ H1 D s1 zk
  | ex C fs => exact fun dd H1 s1 x1 => zk.xx g1 C fs σ dd H1 (k2 C fs rfl) s1 x1
theorem ds_retR {o : Out} (he : DR X F g e g1 o) (k1 : ∀ d, o = .ok d → z.rt g1 (.d d)) (k2 : ∀ C fs, o = .ex C fs → z.ex g1 C fs) : DS X F g (.Return (some e) pos :: rest) z := DS.mk fun σ H D s zk => by
  refine uS_of (pss_cons (ps_ret pe_s) pss_s) (he.run σ H _ s ?_)
  cases o with
  | ok d => exact fun v H1 s1 kk x1 => zk.rt g1 _ σ v H1 (k1 d rfl) s1 (by rw [hd_dom he.dom]; exact x1)
  | ex C fs => exact fun dd H1 s1 x1 => zk.xx g1 C fs σ dd H1 (k2 C fs rfl) s1 x1
theorem ds_asgR {tg : Expr} {o : Out} (he : DR X F g e g1 o) (k1 : ∀ d, o = .ok d → ∃ g2 js, DG X F g1 tg (.d d) g2 js ∧ DS X F g2 rest z) (k2 : ∀ C fs, o = .ex C fs → z.ex g1 C fs) (hs : swapsWithSole [tg] e pos.line X.env = pure false := by rfl) (hw : swappedStores [tg] e X.env = pure none := by rfl) (h1 : (assignEach [tg] X.env).map (·.2) = [assign tg X.env] := by rfl) : DS X F g (.Assign [tg] e pos :: rest) z := DS.mk fun σ H D s zk => by
  refine uS_of (pss_cons (ps_asg pe_s pg_s hs hw h1) pss_s) (he.run σ H _ s ?_)
  cases o with
  | ok d =>
    obtain ⟨g2, js, hg, k⟩ := k1 d rfl
    exact fun v H1 s1 kk x1 => hg.run σ H1 v _ s1 (by rw [hd_dom he.dom]; exact x1) fun σ2 s2 _ => k σ2 H1 D s2 zk
  | ex C fs => exact fun dd H1 s1 x1 => zk.xx g1 C fs σ dd H1 (k2 C fs rfl) s1 x1
end
theorem okXN {P : Program} {w : World} {K : PySem.W.Frag} {mg : Str → Option Value} {base : Heap} {x qual : Str} {st : Stmt} {f : Addr} {fd : FuncData} {N ps : List Str} {k : Nat} {sp : Sp} (F : Fun K x qual st f fd) (S : FnScope N ps (defScope st)) (len : ∀ vs H Q E, sp vs H Q E → vs.length = ps.length)
    (hb : ∀ (cdv : Value) (A : Around) (outer : List Env) (s : Shared) (H : Hp) (vs : List V) (Q : VK) (E : XK), Room k (A.deeper (envOfC qual (defScope st) s.heap.objs.size f cdv)) → sp vs H Q E →
      ∃ t, PSs (cxOf (L2N.CX P w) P w K mg base N qual (defScope st) f cdv A outer s H E) (defBody st) t ∧ t { nx := fun _ H' => Q .non H', rt := Q } (start N vs) H) : FnOk P w K mg base (L2N.CX P w) (k + 1) f fd ps sp := by
  obtain ⟨_, _, _, _, _, _, cdv, _, _, rfl, lk, hcd⟩ := F.ex
  exact fn_of lk hcd S len (hb cdv)
/-- the context of a def that may raise -/
abbrev Xr (P : Program) (w : World) (K : PySem.W.Frag) (mg : Str → Option Value) (base : Heap) (N : List Str) (qual : Str) (sc : Scope) (f : Addr) (cdv : Value) (A : Around) (outer : List Env) (s : Shared) (H : Hp) (E : XK) : Cx := cxOf (L2N.CX P w) P w K mg base N qual sc f cdv A outer s H E
theorem okR {P : Program} {w : World} {K : PySem.W.Frag} {mg : Str → Option Value} {base : Heap} {x qual : Str} {st : Stmt} {f : Addr} {fd : FuncData} {N ps : List Str} {k : Nat} {R : List PyData → Out → Prop} (Fn : Fun K x qual st f fd) (S : FnScope N ps (defScope st)) (hl : ∀ ds d, R ds d → ds.length = ps.length)
    (h : ∀ f cdv A outer s H E, Room k (A.deeper (envOfC qual (defScope st) s.heap.objs.size f cdv)) → ∀ F ds o, F.M = [] → R ds o →
      DS (Xr P w K mg base N qual (defScope st) f cdv A outer s H E) F ⟨sl0 N.length (ds.map .d), []⟩ (defBody st) ⟨fun _ => o = .ok .none, fun _ r => ∃ d, o = .ok d ∧ r = .d d, fun _ => False, fun _ => False, fun _ C fs => o = .ex C fs⟩) :
    FnOk P w K mg base (L2N.CX P w) (k + 1) f fd ps (spR K R) := by
  refine okXN Fn S (fun vs H Q E ⟨Sx, ds, d, _, hd, hR, _⟩ => by rw [dpAll_length hd]; exact hl ds d hR) (fun cdv A outer s H vs Q E hr ⟨Sx, ds, o, hS, hd, hR, q⟩ => ?_)
  refine ⟨_, pss_s, h f cdv A outer s H E hr ⟨Sx, H, []⟩ ds o rfl hR _ H _ ?_ ?_⟩
  · refine ⟨start_ok ?_, fun p hp => absurd hp (by simp), List.nodup_nil, fun b o e _ => e, fun a m => absurd m (by simp), fun a m => ⟨hS a m, by simp⟩, fun a m => absurd m (by simp)⟩
    have e : (⟨Sx, H, []⟩ : Fm).hd ⟨sl0 N.length (ds.map .d), []⟩ H = hid Sx H := by show hid (Sx ++ []) H = _; rw [List.append_nil]
    rw [e]
    exact paired_of_dp hd
  · have up : ∀ (g : G) (H' : Hp), (∀ a, a ∈ Sx → a ∈ Sx ++ g.dom) := fun g H' a m => List.mem_append_left _ m
    refine ⟨fun g σ H' e s' => ?_, fun g r σ v H' e s' k' => ?_, fun _ _ _ h => h.elim, fun _ _ _ h => h.elim, fun g C fs σ d H' e s' x' => ?_⟩
    · subst e
      exact q _ _ (fun b o e' => s'.ex b o e' (by simp)) Dt.non
    · obtain ⟨d, e, e2⟩ := e
      subst e
      subst e2
      exact q _ _ (fun b o e' => s'.ex b o e' (by simp)) (dp_mono (hid_less (up g H')) k')
    · subst e
      refine ⟨fun cls d _ H => E cls d H, L2N.takes_of rfl rfl rfl rfl, q d H' (fun b o e' => s'.ex b o e' (by simp)) ?_⟩
      exact exOk_mono (hid_less (up g H')) x'
/-- an own error's __init__ that keeps one value -/
def spI1 (K : PySem.W.Frag) (C : Addr) (f : Str) : Sp := fun vs H Q _ => ∃ (a : Addr) (v : V), vs = [.ref a, v] ∧ H a = some (exo a C none) ∧ ∀ dx, H dx = none → dx ≠ a → Q .non (upd (upd H dx (exd dx [(f, v)])) a (exo a C (some dx)))
/-- an own error with an __init__ of one value -/
structure OwnErr (P : Program) (w : World) (K : PySem.W.Frag) (mg : Str → Option Value) (base : Heap) (k : Nat) (x : Str) (C : Addr) (f : Str) : Prop where
  T : OexC K C
  m : mg x = some (.ref C)
  i : ∃ (fI : Addr) (fd : FuncData) (ps : List Str), PySem.W.findIn K (.ref C) "__init__" = some (some (.ref fI)) ∧ PySem.W.typeIn K (.ref fI) = some (.type "function") ∧ FnOk P w K mg base CX0 k fI fd ps (spI1 K C f) ∧ Binds K fd ps []
section
variable {X : Cx} {F : Fm} {g g1 g2 : G} {e : Expr} {es : List Expr} {pos p pos2 : Pos} {rest : List Stmt} {z : Z} {tg : Expr}
theorem ds_raise1 {x f : Str} {C : Addr} {k : Nat} {d : PyData} (O : OwnErr X.prog X.w X.K X.mg X.base k x C f) (hr : Room (k + 1) X.A) (he : DE X F g e g1 (.d d)) (h : z.ex g1 C (some [(f, d)])) (hc : X.calm = true := by rfl) (hg : Gl X x := by rfl)
    (hdb : (x == ("__debug__" : Str)) = false := by decide) (hst : starEach (e :: []) X.env = (false, eval e X.env) :: starEach [] X.env := by rfl) (hpl : (backTo pos2 (starEach [] X.env)).any (·.1) = false := by rfl) : DS X F g (.Raise (some (.Call (.Name x p) [e] [] pos2)) none pos :: rest) z := DS.mk fun σ H D s zk => by
  obtain ⟨fI, fd, ps, iC, tI, F1, b⟩ := O.i
  refine uS_of (pss_cons (L2N.ps_raise hc takes_xend (pmk_oexN O.T iC tI F1 hr b pass0 hg O.m (pa_cons pe_s pa_nil hst) hdb hst hpl)) pss_s) (he.run σ H _ s fun v H1 s1 k1 x1 => ?_)
  refine ⟨Nat.le_of_ble_eq_true rfl, fun a ha => ⟨a, v, rfl, upd_same, fun dx h1 h2 => ?_⟩⟩
  have h3 : H1 dx = none := by rw [upd_ne h2] at h1; exact h1
  refine ⟨rfl, dx, [(f, v)], upd_same, by rw [upd_ne h2]; exact upd_same, h3, ?_⟩
  have sm : Same H1 (upd (del (upd (upd (upd H1 a (exo a C none)) dx (exd dx [(f, v)])) a (exo a C (some dx))) a) dx (.xd [(f, v)])) := fun b o q => by
    have nb : b ≠ dx := ne_of_none q h3
    have na : b ≠ a := ne_of_none q ha
    rw [upd_ne nb, del_ne na, upd_ne na, upd_ne nb, upd_ne na]
    exact q
  have hn : dx ∉ F.S ++ g1.dom := s1.newOut h3
  refine zk.xx g1 C _ σ (some dx) _ h (s1.grow sm) ⟨dx, [(f, v)], rfl, hid_of hn upd_same, rfl, .cons ?_ .nil⟩
  have x2 : Dt X.K (F.hd g1 H1) v d := by rw [hd_dom he.dom]; exact x1
  exact dp_mono (hid_same sm) x2
end
/-- an own error without an __init__ -/
structure OwnErr0 (K : PySem.W.Frag) (mg : Str → Option Value) (x : Str) (C : Addr) : Prop where
  xP : PySem.W.excIn K C [.type "ValueError", .type "Exception", .type "BaseException", .type "object"] "ValueError.__new__" = true
  m : mg x = some (.ref C)
  kP : PySem.W.keepIn K (.ref C) = true
  bP : PySem.W.subIn K (.ref C) (.type "BaseException") = some true
  tP : PySem.W.typeIn K (.ref C) = some (.type "type")
theorem ds_raise0 {X : Cx} {F : Fm} {g : G} {pos p p2 pos2 : Pos} {rest : List Stmt} {z : Z} {x t : Str} {C : Addr} {j : Nat} (O : OwnErr0 X.K X.mg x C) (h : z.ex g C none) (hc : X.calm = true := by rfl) (hg : Gl X x := by rfl) (hdb : (x == ("__debug__" : Str)) = false := by decide) :
    DS X F g (.Raise (some (.Call (.Name x p) [.Constant (.str t) j p2] [] pos2)) none pos :: rest) z := DS.mk fun σ H D s zk =>
  uS_of (pss_cons (L2N.ps_raise hc takes_xend (L2N.pmk_own PySem.F.excBase_ValueError O.xP O.m O.kP (raises_own O.bP O.tP) hg hdb)) pss_s) (zk.xx g C none σ none H h s rfl)
end DL
end L2
set_option Elab.async false
set_option linter.all false
set_option maxRecDepth 100000
set_option maxHeartbeats 4000000
/-! isinstance of an error that has its own dict -/
namespace PySem.W
open PySem PySem.Spec PySem.Calls PyProof.Rows
section
variable {prog : Program} {w : World} {A : Around} {E : Value → Shared → Prop} {s : Shared} {K : Frag} {x D : Addr} {ox : Obj} {od : Option Obj}
theorem findObj_dataAny {C : Addr} {name : Str} {a g : Value} (hc : (clsIn K C).isSome = true) (ha : findIn K (.ref C) name = some (some a)) (hg : specialIn K a "__get__" = some (some g)) (ht : takesIn K a = some true) : findObj K C od name = some (.bind g a) := by
  obtain ⟨cd, hc⟩ := Option.isSome_iff_exists.mp hc
  unfold findObj
  rw [hc, Option.bind_some, ha, Option.bind_some]
  simp [hg, ht]
theorem class_of_error {Q : Option Value → Shared → Prop} (C : L2.ExcC K D) (X : K.In s.heap) (I : InstAt s.heap x ox D od) (h : Q (some (.ref D)) { s with toks := s.toks + 1 }) : wpAny (model prog w) A (getAttr? (.ref x) "__class__") Q E s := by
  obtain ⟨hga, hgt, hsub, hdct, ha, hn, htk, hm⟩ := C
  have hf : findObj K D od "__class__" = some (.bind (.builtin "getset_descriptor.__get__") (.builtin "object.__class__")) := findObj_dataAny (by obtain ⟨cd, hc, _⟩ := any_some hdct; rw [hc]; rfl) ha hn htk
  obtain ⟨hp, g, d, t, os⟩ := s
  have L0 := I.type (M := model prog w)
  have L1 := looks_findIn (M := model prog w) X hga
  have L2' := looks_findIn (M := model prog w) X hgt
  have L3 := looks_find (M := model prog w) X I hf
  have sub : Looks (model prog w) hp (isInstance (.ref x) (.type "BaseException")) true := L0.andThen (looks_subIn X hsub)
  unfold getAttr? getAttrBy? getAttrBy
  refine wpAny_bind (wpAny_mkText (wpAny_bind (wpAny_attempt (wpAny_holding (wpAny_bind (L0.at (wpAny_bind (L1.at ?_))))))))
  have e1 : (onTheHeap (Value.ref D) && Value.builtin "BaseException.__getattribute__" == Value.builtin "object.__getattribute__") = false := by
    rw [show (Value.builtin "BaseException.__getattribute__" == Value.builtin "object.__getattribute__") = false by decide +kernel]
    rfl
  show wpAny _ _ (if (onTheHeap (Value.ref D) && Value.builtin "BaseException.__getattribute__" == Value.builtin "object.__getattribute__") = true then _ else _) _ _ _
  rw [e1, if_neg Bool.false_ne_true]
  unfold getAttrByItsOwn hookBefore
  refine wpAny_bind ?_
  rw [if_pos (show onTheHeap (Value.ref D) = true from rfl)]
  refine L2'.at (wpAny_bind (wpAny_attempt (wpAny_holding ?_)))
  unfold callGetattribute
  rw [if_neg (show ¬ ((false && onTheHeap (Value.builtin "BaseException.__getattribute__")) = true) from Bool.false_ne_true)]
  unfold boundAndCalled
  rw [PySem.F.excAttr_ValueError.ga.bind (.ref x)]
  refine wpAny_bind (wpAny_pure ?_)
  show wpAny _ _ (call (.builtin "BaseException.__getattribute__") [.ref x, .str "__class__" t]) _ _ _
  refine wpAny_call (codeAny_call_builtin PySem.F.excAttr_ValueError.ga.plain PySem.F.entry_bexc_ga ?_)
  refine @check_slot (model prog w) _ _ ⟨hp, g, d, t + 1, os⟩ "BaseException.__getattribute__" "BaseException" "__getattribute__" (.ref x) [.str "__class__" t] [] _ (by decide +kernel) (by decide +kernel) sub (PySem.F.args_bexc_ga (.ref x) (.str "__class__" t)) ?_
  unfold Builtin.«object.__getattribute__»
  refine wpAny_bind (wpAny_of_eq (a := ((Value.ref x : Value), [Value.str "__class__" t])) (by first | rfl | (simp only [slotArgs]; rfl)) ?_)
  refine wpAny_bind (wpAny_pure (wpAny_bind (L0.at (wpAny_bind (L3.at ?_)))))
  show wpAny _ _ (holding [Value.builtin "object.__class__"] (call (.builtin "getset_descriptor.__get__") [.builtin "object.__class__", .ref x, .ref D]) >>= ret) _ _ _
  refine wpAny_bind (wpAny_holding (wpAny_call (class_get (s := ⟨hp, g, d, t + 1, os⟩) (ox := ox) (od := od) X I hm (wpAny_pure ?_))))
  show wpAny _ _ (handedOut (.ref D)) _ _ _
  rw [handedOut_of (v := .ref D) rfl]
  first
    | exact wpAny_pure (wpAny_pure h)
    | exact wpAny_pure h
    | exact wpAny_pure (wpAny_bind (wpAny_pure (wpAny_pure h)))
theorem kit_error (C : L2.ExcC K D) : KitX K (.ref x) (.ref D) (fun h => InstAt h x ox D od) :=
  have Z := handS_kitx_exc (x := x) (ox := ox) C.hg C.hk C.hs C.hd C.ha C.hn C.ht C.hm
  { ty := fun _ _ _ I => I.type
    it := fun M h k _ => by
      obtain ⟨cdD, hcD, _⟩ := any_some C.hd
      unfold clsIn at hcD
      split at hcD
      · rename_i c' d' cd' sl' ho
        intro A' Q' E' s' k' q
        unfold isType loadHead
        exact wpAny_bind (wpAny_loadPart (k' _ _ (k _ _ ho)) (wpAny_pure q))
      · cases hcD
    ne := Z.ne
    ca := fun X I k => class_of_error C X I k }
end
end PySem.W
namespace L2
open PySem PySem.Spec PyProof.Rows
/-- isinstance(e, c), e the error at a, which the context pins: its dict is tracked, or it has none -/
def rIsP (K : PySem.W.Frag) (D a : Addr) (d : Option Addr) : List V → Hp → VK → Prop := fun xs H Q => ∃ (c : V) (cv : Value) (b : Bool), xs = [.ref a, c] ∧ (∀ u, RelV c u → u = cv) ∧ PySem.W.kitOne K (.ref D) cv = some b ∧ (∀ dx, d = some dx → ∃ fs, H dx = some (.xd fs)) ∧ Q (.bl b) H
theorem call_isP {X : Cx} {a D : Addr} {oe : Obj} {d : Option Addr} (C : ExcC X.K D) (hz : Zc (.ref D) d oe) (hf : ∃ vs, oe.data = .fields vs) (hp : (a, oe) ∈ X.pn) : CallR X (.builtin "isinstance") (rIsP X.K D a d) := by
  intro pins s σ H xs us Q I r h
  obtain ⟨c, cv, b, rfl, hcv, e, hd, q⟩ := h
  cases r with
  | cons rx rr =>
    cases rr with
    | cons rt rr =>
      cases rr
      cases rx
      have ec := hcv _ rt
      subst ec
      obtain ⟨hget, _⟩ := I.pin (a, oe) (List.mem_append_left _ hp)
      have J : ∃ od, PySem.W.InstAt s.heap a oe D od := by
        obtain ⟨vs, hv⟩ := hf
        obtain ⟨oc, oda, odt, osl⟩ := oe
        obtain ⟨h1, h2⟩ := hz
        dsimp only at h1 h2 hv
        subst h1 h2 hv
        cases oda with
        | none => exact ⟨none, hget, rfl, rfl, trivial⟩
        | some dx =>
          obtain ⟨fs, hx⟩ := hd dx rfl
          obtain ⟨mA, ⟨o, es, ep, ho, _⟩, _⟩ : ObjOk X.prog X.w H s.heap dx (.xd fs) := I.hok dx _ hx
          exact ⟨some o, hget, rfl, rfl, ho⟩
      obtain ⟨od, J⟩ := J
      exact PySem.W.kia_one (PySem.W.kit_error C) I.kIn J e (fun z => nomatch z) fun tk => ⟨.bl b, H, I.kept (t' := tk) fun _ _ z => z, rfl, q⟩
end L2
set_option Elab.async false
set_option linter.all false
set_option maxRecDepth 100000
set_option maxHeartbeats 4000000
namespace L2
namespace DL
open PySem PySem.Spec PyProof.Rows
section
variable {X : Cx} {F : Fm} {g g1 g2 : G} {e c : Expr} {es : List Expr} {pos p2 : Pos} {rest body : List Stmt} {z : Z} {ds : List PyData} {d : PyData}
/-! ### slots known by a property -/
theorem de_varP (i : Nat) {x : Str} {φ : V → Hp → Prop} {m : ∀ v H H', Same H H' → φ v H → φ v H'} (hs : g.sl[i]? = some (.p φ m) := by rfl) (hN : X.N[i]? = some x := by rfl) (hv : Vis X.env.scope x := by first | exact Or.inl rfl | exact Or.inr (Or.inl rfl) | exact Or.inr (Or.inr rfl)) (hd : (x == ("__debug__" : Str)) = false := by decide)
    (hcd : (x == ("__classdict__" : Str)) = false := by decide) : DE X F g (.Name x pos) g (.p φ m) :=
  de_of (pe_var (i := i) hN hv hd hcd) fun σ H Q s q => by
    obtain ⟨o, h1, h2⟩ := sat_slot s hs
    cases o with
    | none => exact h2.elim
    | some v => exact ⟨v, h1, q v H (Same.refl H) h2⟩
theorem de_globV {x : Str} {v : V} {u : Value} (hm : X.mg x = some u) (rv : RelV v u := by rfl) (hg : Gl X x := by rfl) (hdb : (x == ("__debug__" : Str)) = false := by decide) : DE X F g (.Name x pos) g (.v v) :=
  de_of (pe_glob hg hm rv hdb) fun σ H Q s q => q _ H (Same.refl H) rfl
theorem de_bltnV {x : Str} {v : V} {u : Value} (hm : X.mg x = none) (hv : bootBuiltins x = some u := by decide +kernel) (rv : RelV v u := by rfl) (hg : Gl X x := by rfl) (hn : x ≠ "__name__" := by decide) (hdb : (x == ("__debug__" : Str)) = false := by decide) : DE X F g (.Name x pos) g (.v v) :=
  de_of (pe_bltn hg hm hv rv hn hdb) fun σ H Q s q => q _ H (Same.refl H) rfl
theorem Sat.setU {K : PySem.W.Frag} {σ : St} {H : Hp} (s : Sat K F g σ H) (i : Nat) : Sat K F ⟨g.sl.set i .u, g.ow⟩ (σ.set i none) H :=
  ⟨paired_set trivial i s.sl, s.ow, s.nd, s.ex, s.fr, s.sH, s.mH⟩
/-! ### errors caught -/
def IsEx (K : PySem.W.Frag) (a : Addr) (d : Option Addr) (ofs : Option (List (Str × PyData))) : V → Hp → Prop := fun v H => v = .ref a ∧ ExOk K H ofs d
theorem isEx_mono {K : PySem.W.Frag} {a : Addr} {d : Option Addr} {ofs : Option (List (Str × PyData))} : ∀ v H H', Same H H' → IsEx K a d ofs v H → IsEx K a d ofs v H' := fun _ _ _ e h => ⟨h.1, exOk_mono e h.2⟩
abbrev slEx (K : PySem.W.Frag) (a : Addr) (d : Option Addr) (ofs : Option (List (Str × PyData))) : Sl := .p (IsEx K a d ofs) isEx_mono
/-- what is wanted of an exception that the clause may take -/
def tryZ (X : Cx) (F : Fm) (i : Nat) (c : Value) (suite rest : List Stmt) (z : Z) : Z := ⟨fun g' => DS X F g' rest z, z.rt, z.bk, z.ct, fun g' C ofs => ∃ b, PySem.W.exmOne X.K (.ref C) c = some b ∧
  (b = true → ∀ a oe d pn, L2N.Zn (.ref C) d oe → (∃ vs, oe.data = .fields vs) → DS (X.suite a ((a, oe) :: pn)) F ⟨g'.sl.set i (slEx X.K a d ofs), g'.ow⟩ suite
    ⟨fun g2 => DS X F ⟨g2.sl.set i .u, g2.ow⟩ rest z, z.rt, fun g2 => z.bk ⟨g2.sl.set i .u, g2.ow⟩, fun g2 => z.ct ⟨g2.sl.set i .u, g2.ow⟩, fun _ _ _ => False⟩) ∧ (b = false → z.ex g' C ofs)⟩
theorem ds_try_as (i : Nat) {x n : Str} {c : Value} {np pos' : Pos} {b₀ : Stmt} {suite : List Stmt} (nd : X.N.Nodup) (hc : Names X x c)
    (hb : ∀ pn xe, PassesOwn (model X.prog X.w) X.A X.env xe → DS (X.tr pn xe) F g body (tryZ X F i c (b₀ :: suite) rest z))
    (hs : X.stack = X.env :: X.outer := by rfl) (hf : X.env.frame = some X.env.locals := by rfl) (hi : X.N[i]? = some n := by rfl) (hln : X.env.kindOf n = some .local := by rfl) :
    DS X F g (.Try body [.ExceptHandler (some (.Name x np)) (some n) (b₀ :: suite) pos'] [] [] pos :: rest) z := DS.mk fun σ H D s zk => by
  refine uS_of (pss_cons (L2N.ps_try_as (i := i) (tb := fun W D σ H => ∀ pn xe, L2N.Takes (X.tr pn xe) W → PassesOwn (model X.prog X.w) X.A X.env xe → uS (X.tr pn xe) body D σ H)
    (ts := fun a cls d D σ H => ∀ oe pn, L2N.Zn cls d oe → (∃ vs, oe.data = .fields vs) → uS (X.suite a ((a, oe) :: pn)) (b₀ :: suite) D σ H) hs hf nd hi hln hc takes_xend
    (fun W pn xe tk po => ⟨fun pins s σ H D I h => h pn xe tk po pins s I⟩) (fun a oe cls d pn hz hf => ⟨fun pins s σ H D I h => h oe pn hz hf pins s I⟩)) pss_s) ?_
  intro pn xe tk po
  refine (hb pn xe po).run σ H _ s ⟨fun g' σ' H' q s' => q.run σ' H' D s' zk, zk.rt, zk.bk, zk.ct, fun g' C ofs σ' d H' ⟨b, e, h1, h2⟩ s' x' => ⟨_, tk, b, e, fun hb a ha oe pn' hz hf' => ?_, fun hb => zk.xx g' C ofs σ' d H' (h2 hb) s' x'⟩⟩
  refine (h1 hb a oe d pn' hz hf').run _ H' _ (Sat.setSl s' (r := slEx X.K a d ofs) ⟨rfl, x'⟩) ?_
  exact ⟨fun g2 σ2 H2 q s2 => q.run _ H2 D (s2.setU i) zk, zk.rt, fun g2 σ2 H2 q s2 => zk.bk _ _ H2 q (s2.setU i), fun g2 σ2 H2 q s2 => zk.ct _ _ H2 q (s2.setU i), fun _ _ _ _ _ _ q => q.elim⟩
/-- e.n, e the error that the suite holds -/
theorem lookup_put' {α : Type} (f g : Str) (y : α) (fs : List (Str × α)) : ((f, y) :: fs).lookup g = if g = f then some y else fs.lookup g := by
  by_cases h : g = f
  · subst h; simp [List.lookup]
  · rw [if_neg h, List.lookup_cons, show (g == f) = false by simpa using h]
theorem lookup_both {K : PySem.W.Frag} {H : Hp} {n : Str} : ∀ {vs : List (Str × V)} {fs : List (Str × PyData)} {d : PyData}, vs.map (·.1) = fs.map (·.1) → DtAll K H (vs.map (·.2)) (fs.map (·.2)) → fs.lookup n = some d → ∃ v, vs.lookup n = some v ∧ Dt K H v d
  | [], [], _, _, _, h => by cases h
  | (a, v) :: vs, (b, x) :: fs, d, e, r, h => by
    rw [List.map_cons, List.map_cons] at e
    injection e with e1 e2
    have e1 : a = b := e1
    subst e1
    cases r with
    | cons r1 r2 =>
      rw [lookup_put'] at h ⊢
      by_cases hn : n = a
      · rw [if_pos hn] at h ⊢
        cases h
        exact ⟨v, rfl, r1⟩
      · rw [if_neg hn] at h ⊢
        exact lookup_both e2 r2 h
theorem de_xf {a C : Addr} {oe : Obj} {d : Option Addr} {pn : List (Addr × Obj)} {n : Str} {fs : List (Str × PyData)} {x : PyData} (T : XfC X.K C) (hno : PySem.W.findIn X.K (.ref C) n = some none) (hz : L2N.Zn (.ref C) d oe) (hf : ∃ vs, oe.data = .fields vs)
    (he : DE (X.suite a ((a, oe) :: pn)) F g e g1 (slEx X.K a d (some fs))) (hx : fs.lookup n = some x) (hb : attributeBase e n X.env (eval e X.env) = eval e X.env := by rfl) : DE (X.suite a ((a, oe) :: pn)) F g (.Attribute e n pos) g1 (.d x) := by
  refine ⟨he.dom, fun σ H Q s q => eS_of (pe_xf T hno hz.zc hf pe_s hb) (he.run σ H _ s fun v H1 s1 k1 x1 => ?_)⟩
  obtain ⟨ev, dx, vs, e1, e2, e3, e4⟩ : IsEx X.K a d (some fs) v (F.hd g H1) := x1
  obtain ⟨u, h1, h2⟩ := lookup_both e3 e4 hx
  exact ⟨ev, rfl, dx, vs, u, e1, unhid _ _ e2, h1, q u H1 s1 k1 h2⟩
/-- isinstance(e, C), the error pinned -/
theorem de_isP {a D : Addr} {oe : Obj} {dd : Option Addr} {ofs : Option (List (Str × PyData))} {p : Pos} {cv : V} {cu : Value} {b : Bool} (C : ExcC X.K D) (hz : Zc (.ref D) dd oe) (hf : ∃ vs, oe.data = .fields vs) (hp : (a, oe) ∈ X.pn) (hm : X.mg "isinstance" = none)
    (he : DE X F g e g (slEx X.K a dd ofs)) (hc : DE X F g c g (.v cv)) (hu : ∀ u, RelV cv u → u = cu) (hk : PySem.W.kitOne X.K (.ref D) cu = some b) (hg : Gl X "isinstance" := by rfl)
    (h1 : starEach (e :: [c]) X.env = (false, eval e X.env) :: starEach [c] X.env := by rfl) (h2 : starEach [c] X.env = (false, eval c X.env) :: starEach [] X.env := by rfl) (hpl : (backTo pos (starEach [c] X.env)).any (·.1) = false := by rfl) :
    DE X F g (.Call (.Name "isinstance" p) [e, c] [] pos) g (.d (.bool b)) := by
  refine ⟨rfl, fun σ H Q s q => eS_of (pe_callB (call_isP C hz hf hp) hg hm (by decide +kernel) (pa_cons pe_s (pa_cons pe_s pa_nil h2) h1) (by decide) (by decide) h1 hpl) (he.run σ H _ s fun v H1 s1 k1 x1 => hc.run σ H1 _ s1 fun u H2 s2 k2 x2 => ?_)⟩
  obtain ⟨ev, ex⟩ : IsEx X.K a dd ofs v (F.hd g H1) := x1
  subst ev
  have eu : some u = some cv := x2
  cases eu
  refine ⟨_, cu, b, rfl, hu, hk, fun dx hd => ?_, q _ H2 s2 (k1.trans k2) (Dt.bl b)⟩
  cases ofs with
  | none =>
    have hd' : dd = none := ex
    rw [hd'] at hd
    cases hd
  | some fs =>
    obtain ⟨dx', vs, e1, e2, _⟩ := ex
    rw [hd] at e1
    cases e1
    exact ⟨vs, unhid _ _ (k2 _ _ e2)⟩
theorem de_isC {a D C' : Addr} {oe : Obj} {dd : Option Addr} {ofs : Option (List (Str × PyData))} {p p3 : Pos} {x : Str} {b : Bool} (C : ExcC X.K D) (hz : Zc (.ref D) dd oe) (hf : ∃ vs, oe.data = .fields vs) (hp : (a, oe) ∈ X.pn) (hm : X.mg "isinstance" = none)
    (he : DE X F g e g (slEx X.K a dd ofs)) (hc : X.mg x = some (.ref C')) (hk : PySem.W.kitOne X.K (.ref D) (.ref C') = some b) (hgx : Gl X x := by rfl) (hdx : (x == ("__debug__" : Str)) = false := by decide) (hg : Gl X "isinstance" := by rfl)
    (h1 : starEach (e :: [.Name x p3]) X.env = (false, eval e X.env) :: starEach [.Name x p3] X.env := by rfl) (h2 : starEach [.Name x p3] X.env = (false, eval (.Name x p3) X.env) :: starEach [] X.env := by rfl) (hpl : (backTo pos (starEach [.Name x p3] X.env)).any (·.1) = false := by rfl) :
    DE X F g (.Call (.Name "isinstance" p) [e, .Name x p3] [] pos) g (.d (.bool b)) :=
  de_isP C hz hf hp hm he (de_globV (v := .ref C') hc rfl hgx hdx) (fun u hu => hu) hk hg h1 h2 hpl
theorem de_isB {a D : Addr} {oe : Obj} {dd : Option Addr} {ofs : Option (List (Str × PyData))} {p p3 : Pos} {x : Str} {T : String} {b : Bool} (C : ExcC X.K D) (hz : Zc (.ref D) dd oe) (hf : ∃ vs, oe.data = .fields vs) (hp : (a, oe) ∈ X.pn) (hm : X.mg "isinstance" = none)
    (he : DE X F g e g (slEx X.K a dd ofs)) (hc : X.mg x = none) (hk : PySem.W.kitOne X.K (.ref D) (.type T) = some b) (hv : bootBuiltins x = some (.type T) := by decide +kernel) (hgx : Gl X x := by rfl) (hn : x ≠ "__name__" := by decide) (hdx : (x == ("__debug__" : Str)) = false := by decide) (hg : Gl X "isinstance" := by rfl)
    (h1 : starEach (e :: [.Name x p3]) X.env = (false, eval e X.env) :: starEach [.Name x p3] X.env := by rfl) (h2 : starEach [.Name x p3] X.env = (false, eval (.Name x p3) X.env) :: starEach [] X.env := by rfl) (hpl : (backTo pos (starEach [.Name x p3] X.env)).any (·.1) = false := by rfl) :
    DE X F g (.Call (.Name "isinstance" p) [e, .Name x p3] [] pos) g (.d (.bool b)) :=
  de_isP C hz hf hp hm he (de_bltnV (v := .ty T) hc hv rfl hgx hn hdx) (fun u hu => hu) hk hg h1 h2 hpl
/-! ### calls while an error is handled -/
structure CalHp (P : Program) (w : World) (K : PySem.W.Frag) (mg : Str → Option Value) (base : Heap) (k : Nat) (p : Addr × Obj) (x : Str) (sp : Sp) : Prop where
  ex : ∃ f fd ps, L2H.FnHp P w K mg base CX0 k p f fd ps sp ∧ mg x = some (.ref f) ∧ PySem.W.keepIn K (.ref f) = true ∧ Binds K fd ps []
/-- a promise whose first argument is told by φ -/
def spV (K : PySem.W.Frag) (φ : V → Hp → Prop) (R : List PyData → PyData → Prop) : Sp := fun vs H Q _ => ∃ (S : List Addr) (v : V) (ws : List V) (ds : List PyData) (d : PyData), vs = v :: ws ∧ (∀ a ∈ S, H a ≠ none) ∧ φ v (hid S H) ∧ DtAll K (hid S H) ws ds ∧ R ds d ∧ ∀ u H', Same H H' → Dt K (hid S H') u d → Q u H'
theorem eS_callH {x : Str} {sp : Sp} {j k : Nat} {pp : Addr × Obj} {p : Pos} (C : CalHp X.prog X.w X.K X.mg X.base j pp x sp) (hr : L2H.RoomH k X.A) (hot : L2H.Hot1 X.A pp) (hp : pp ∈ X.pn) (hk : j ≤ k) (hg : Gl X x) (hdb : (x == ("__debug__" : Str)) = false) (he : starEach (e :: es) X.env = (false, eval e X.env) :: starEach es X.env)
    (hpl : (backTo pos (starEach es X.env)).any (·.1) = false) {σ : St} {H : Hp} {Q : VK} (h : aS X (e :: es) σ H fun vs H1 => sp vs H1 Q E0) : eS X (.Call (.Name x p) (e :: es) [] pos) σ H Q := by
  obtain ⟨f, fd, ps, G, hm, kp, b⟩ := C.ex
  exact eS_of (L2H.pe_callHp (E := fun _ => E0) G (hr.mono hk) hot hp hg hm kp b (fun _ _ _ _ _ _ _ z => z.elim) pa_s hdb he hpl) h
theorem de_callHV {x : Str} {φ : V → Hp → Prop} {m : ∀ v H H', Same H H' → φ v H → φ v H'} {R : List PyData → PyData → Prop} {j k : Nat} {pp : Addr × Obj} {p : Pos} (C : CalHp X.prog X.w X.K X.mg X.base j pp x (spV X.K φ R)) (hr : L2H.RoomH k X.A) (hot : L2H.Hot1 X.A pp) (hp : pp ∈ X.pn) (h1 : DE X F g e g (.p φ m)) (ha : DAd X F g es g1 ds) (hR : R ds d) (hk : j ≤ k := by decide) (hg : Gl X x := by rfl)
    (hdb : (x == ("__debug__" : Str)) = false := by decide) (he : starEach (e :: es) X.env = (false, eval e X.env) :: starEach es X.env := by rfl) (hpl : (backTo pos (starEach es X.env)).any (·.1) = false := by rfl) : DE X F g (.Call (.Name x p) (e :: es) [] pos) g1 (.d d) := by
  refine ⟨ha.dom, fun σ H Q s q => eS_callH C hr hot hp hk hg hdb he hpl (aS_of (pa_cons pe_s pa_s he) (h1.run σ H _ s fun v H1 s1 k1 x1 => ha.run σ H1 _ s1 fun vs H2 s2 k2 x2 => ?_))⟩
  exact ⟨F.S ++ g.dom, v, vs, ds, d, rfl, fun a mm => s2.hidIn (by rw [ha.dom]; exact mm), m _ _ _ k2 x1, x2, hR, fun u H' e' x' => q u H' (s2.grow e') (k1.trans (k2.trans (hid_same e'))) x'⟩
theorem de_callHD {x : Str} {R : List PyData → PyData → Prop} {j k : Nat} {pp : Addr × Obj} {p : Pos} (C : CalHp X.prog X.w X.K X.mg X.base j pp x (spP X.K R)) (hr : L2H.RoomH k X.A) (hot : L2H.Hot1 X.A pp) (hp : pp ∈ X.pn) (ha : DAd X F g (e :: es) g1 ds) (hR : R ds d) (hk : j ≤ k := by decide) (hg : Gl X x := by rfl)
    (hdb : (x == ("__debug__" : Str)) = false := by decide) (he : starEach (e :: es) X.env = (false, eval e X.env) :: starEach es X.env := by rfl) (hpl : (backTo pos (starEach es X.env)).any (·.1) = false := by rfl) : DE X F g (.Call (.Name x p) (e :: es) [] pos) g1 (.d d) :=
  ⟨ha.dom, fun σ H Q s q => eS_callH C hr hot hp hk hg hdb he hpl (ha.run σ H _ s fun vs H1 s1 k1 x1 => ⟨F.S ++ g.dom, ds, d, fun a m => s1.hidIn (by rw [ha.dom]; exact m), x1, hR, fun v H' e' x' => q v H' (s1.grow e') (k1.trans (hid_same e')) x'⟩)⟩
end
section
variable {P : Program} {w : World} {K : PySem.W.Frag} {mg : Str → Option Value} {base : Heap}
/-- the context of a def's body while the error at p is handled -/
abbrev Xh (P : Program) (w : World) (K : PySem.W.Frag) (mg : Str → Option Value) (base : Heap) (N : List Str) (qual : Str) (sc : Scope) (f : Addr) (cdv : Value) (A : Around) (outer : List Env) (s : Shared) (H : Hp) (E : XK) (p : Addr × Obj) : Cx := (L2H.cxH CX0 P w K mg base N qual sc f cdv A outer s H E p).nox
theorem okHp {x qual : Str} {st : Stmt} {f : Addr} {fd : FuncData} {N ps : List Str} {k : Nat} {p : Addr × Obj} {sp : Sp} (Fn : Fun K x qual st f fd) (S : FnScope N ps (defScope st)) (len : ∀ vs H Q E, sp vs H Q E → vs.length = ps.length)
    (h : ∀ cdv A outer s H vs Q E, L2H.Hot1 A p → L2H.RoomH k (A.deeper (envOfC qual (defScope st) s.heap.objs.size f cdv)) → sp vs H Q E → ∃ t, PSs (Xh P w K mg base N qual (defScope st) f cdv A outer s H E p) (defBody st) t ∧ t { nx := fun _ H' => Q .non H', rt := Q } (start N vs) H) : L2H.FnHp P w K mg base CX0 (k + 1) p f fd ps sp := by
  obtain ⟨_, _, _, _, _, _, cdv, _, _, rfl, lk, hcd⟩ := Fn.ex
  refine L2H.fn_ofHp lk hcd S len fun A outer s H vs Q E hot hr hsp => ?_
  obtain ⟨t, h1, h2⟩ := h cdv A outer s H vs Q E hot hr hsp
  exact ⟨t, h1.nox, h2⟩
theorem okHV {x qual : Str} {st : Stmt} {f : Addr} {fd : FuncData} {N ps : List Str} {k : Nat} {p : Addr × Obj} {φ : V → Hp → Prop} (m : ∀ v H H', Same H H' → φ v H → φ v H') {R : List PyData → PyData → Prop} (Fn : Fun K x qual st f fd) (S : FnScope N ps (defScope st)) (hl : ∀ ds d, R ds d → ds.length + 1 = ps.length)
    (h : ∀ f cdv A outer s H E, L2H.Hot1 A p → L2H.RoomH k (A.deeper (envOfC qual (defScope st) s.heap.objs.size f cdv)) → ∀ F ds d, F.M = [] → R ds d →
      DS (Xh P w K mg base N qual (defScope st) f cdv A outer s H E p) F ⟨sl0 N.length (.p φ m :: ds.map .d), []⟩ (defBody st) ⟨fun _ => d = .none, fun _ r => r = .d d, fun _ => False, fun _ => False, fun _ _ _ => False⟩) :
    L2H.FnHp P w K mg base CX0 (k + 1) p f fd ps (spV K φ R) := by
  refine okHp Fn S (fun vs H Q E ⟨Sx, v, ws, ds, d, e, _, _, hd, hR, _⟩ => by rw [e, List.length_cons, dpAll_length hd]; exact hl ds d hR) fun cdv A outer s H vs Q E hot hr ⟨Sx, v, ws, ds, d, e, hS, hv, hd, hR, q⟩ => ?_
  subst e
  refine ⟨_, pss_s, (h f cdv A outer s H E hot hr ⟨Sx, H, []⟩ ds d rfl hR).run _ H _ ?_ ?_⟩
  · refine ⟨start_ok (.cons ?_ ?_), fun p hp => absurd hp (by simp), List.nodup_nil, fun b o e _ => e, fun a m => absurd m (by simp), fun a m => ⟨hS a m, by simp⟩, fun a m => absurd m (by simp)⟩
    · show φ v (hid (Sx ++ []) H)
      rw [List.append_nil]
      exact hv
    · show Paired (ItOk K (hid (Sx ++ []) H)) ws (ds.map .d)
      rw [List.append_nil]
      exact paired_of_dp hd
  · refine ⟨fun g σ H' e s' => q _ _ (fun b o e' => s'.ex b o e' (by simp)) (by rw [e]; exact Dt.non), fun g r σ v H' e s' k' => ?_, fun _ _ _ h => h.elim, fun _ _ _ h => h.elim, fun _ _ _ _ _ _ h => h.elim⟩
    rw [e] at k'
    have k'' : Dt K (hid (Sx ++ g.dom) H') v d := k'
    exact q v H' (fun b o e' => s'.ex b o e' (by simp)) (dp_mono (hid_less fun a m => List.mem_append_left _ m) k'')
theorem okHD {x qual : Str} {st : Stmt} {f : Addr} {fd : FuncData} {N ps : List Str} {k : Nat} {p : Addr × Obj} {R : List PyData → PyData → Prop} (Fn : Fun K x qual st f fd) (S : FnScope N ps (defScope st)) (hl : ∀ ds d, R ds d → ds.length = ps.length)
    (h : ∀ f cdv A outer s H E, L2H.Hot1 A p → L2H.RoomH k (A.deeper (envOfC qual (defScope st) s.heap.objs.size f cdv)) → ∀ F ds d, F.M = [] → R ds d →
      DS (Xh P w K mg base N qual (defScope st) f cdv A outer s H E p) F ⟨sl0 N.length (ds.map .d), []⟩ (defBody st) ⟨fun _ => d = .none, fun _ r => r = .d d, fun _ => False, fun _ => False, fun _ _ _ => False⟩) :
    L2H.FnHp P w K mg base CX0 (k + 1) p f fd ps (spP K R) := by
  refine okHp Fn S (fun vs H Q E ⟨Sx, ds, d, _, hd, hR, _⟩ => by rw [dpAll_length hd]; exact hl ds d hR) fun cdv A outer s H vs Q E hot hr ⟨Sx, ds, d, hS, hd, hR, q⟩ => ?_
  refine ⟨_, pss_s, (h f cdv A outer s H E hot hr ⟨Sx, H, []⟩ ds d rfl hR).run _ H _ ?_ ?_⟩
  · refine ⟨start_ok ?_, fun p hp => absurd hp (by simp), List.nodup_nil, fun b o e _ => e, fun a m => absurd m (by simp), fun a m => ⟨hS a m, by simp⟩, fun a m => absurd m (by simp)⟩
    show Paired (ItOk K (hid (Sx ++ []) H)) vs (ds.map .d)
    rw [List.append_nil]
    exact paired_of_dp hd
  · refine ⟨fun g σ H' e s' => q _ _ (fun b o e' => s'.ex b o e' (by simp)) (by rw [e]; exact Dt.non), fun g r σ v H' e s' k' => ?_, fun _ _ _ h => h.elim, fun _ _ _ h => h.elim, fun _ _ _ _ _ _ h => h.elim⟩
    rw [e] at k'
    have k'' : Dt K (hid (Sx ++ g.dom) H') v d := k'
    exact q v H' (fun b o e' => s'.ex b o e' (by simp)) (dp_mono (hid_less fun a m => List.mem_append_left _ m) k'')
end
end DL
end L2
set_option Elab.async false
set_option linter.all false
set_option maxRecDepth 100000
set_option maxHeartbeats 4000000
/-! texts: split, join, count -/
namespace L2
namespace DL
open PySem PySem.Spec PyProof.Rows TL
section
variable {X : Cx} {F : Fm} {g g1 g2 : G} {o e : Expr} {pos apos : Pos}
theorem dn_split {a b : Str} (ho : DE X F g o g1 (.d (.str a))) (he : DE X F g1 e g2 (.d (.str b))) (hb : (b.length == 0) = false) (ha : a.length ≤ 100000) (hs : starEach [e] X.env = [(false, eval e X.env)] := by rfl) (hbase : attributeBase o "split" X.env (eval o X.env) = eval o X.env := by rfl) (hline : (apos.endLine == pos.line) = true := by rfl) :
    DN X F g (.Call (.Attribute o "split" apos) [e] [] pos) g2 (.lst (((Txt.split a b).map .str).map .d)) := by
  have dm := he.dom.trans ho.dom
  refine ⟨dm, fun σ H Q s q => eS_of (pe_split pe_s pe_s hs hbase hline) (ho.run σ H _ s fun x H1 s1 k1 x1 => ?_)⟩
  cases x1
  refine ⟨⟨a, rfl⟩, he.run σ H1 _ s1 fun y H2 s2 k2 x2 => ?_⟩
  rw [hd_dom ho.dom, hd_dom ho.dom] at k2
  cases x2
  refine ⟨a, b, rfl, rfl, hb, Nat.le_trans (Nat.add_le_add_right ha 2) (by decide), fun p hp => dn_at dm s2 (k1.trans k2) p hp (show ODok X.K _ _ (.lst _) from ⟨_, rfl, ?_⟩) q⟩
  exact paired_of_dp (by
    have : ∀ ys : List Str, DtAll X.K (F.hd g2 H2) (ys.map V.str) (ys.map .str) := fun ys => by
      induction ys with
      | nil => exact .nil
      | cons y ys ih => exact .cons (.str y) ih
    exact this _)
theorem dtAll_strs {K : PySem.W.Frag} {H : Hp} : ∀ {ys : List Str} {vs : List V}, DtAll K H vs (ys.map .str) → vs = ys.map V.str
  | [], _, h => by cases h; rfl
  | y :: ys, _, h => by
    cases h with | cons h r => cases h; rw [dtAll_strs r]; rfl
theorem de_join {a : Str} {ys : List Str} (ho : DE X F g o g1 (.d (.str a))) (he : DE X F g1 e g2 (.d (.list (ys.map .str)))) (hz : (ys.map (·.length)).sum + ys.length * a.length ≤ 100000) (hs : starEach [e] X.env = [(false, eval e X.env)] := by rfl) (hbase : attributeBase o "join" X.env (eval o X.env) = eval o X.env := by rfl) (hline : (apos.endLine == pos.line) = true := by rfl) :
    DE X F g (.Call (.Attribute o "join" apos) [e] [] pos) g2 (.d (.str (Txt.join a ys))) := by
  refine ⟨he.dom.trans ho.dom, fun σ H Q s q => eS_of (pe_join pe_s pe_s hs hbase hline) (ho.run σ H _ s fun x H1 s1 k1 x1 => ?_)⟩
  cases x1
  refine ⟨⟨a, rfl⟩, he.run σ H1 _ s1 fun y H2 s2 k2 x2 => ?_⟩
  rw [hd_dom ho.dom, hd_dom ho.dom] at k2
  cases x2 with
  | lst a1 a2 =>
    have := dtAll_strs a2
    subst this
    exact ⟨a, _, ys, rfl, rfl, .inl (SqL.of (unhid _ _ a1)), Nat.le_trans hz (by decide), q _ H2 s2 (k1.trans k2) (Dt.str _)⟩
theorem de_count {a b : Str} (ho : DE X F g o g1 (.d (.str a))) (he : DE X F g1 e g2 (.d (.str b))) (hs : starEach [e] X.env = [(false, eval e X.env)] := by rfl) (hbase : attributeBase o "count" X.env (eval o X.env) = eval o X.env := by rfl) (hline : (apos.endLine == pos.line) = true := by rfl) :
    DE X F g (.Call (.Attribute o "count" apos) [e] [] pos) g2 (.d (.int (Txt.count a b))) := by
  refine ⟨he.dom.trans ho.dom, fun σ H Q s q => eS_of (pe_m1 PySem.F.slot_str_count PySem.F.type_str_count mt_count pe_s pe_s hs hbase hline) (ho.run σ H _ s fun x H1 s1 k1 x1 => ?_)⟩
  cases x1
  refine ⟨⟨a, rfl⟩, he.run σ H1 _ s1 fun y H2 s2 k2 x2 => ?_⟩
  rw [hd_dom ho.dom, hd_dom ho.dom] at k2
  cases x2
  exact ⟨a, b, rfl, rfl, q _ H2 s2 (k1.trans k2) (Dt.int _)⟩
end
/-! ### plain: lists of signs cut at a sign -/
def cuts (s : Nat) : List Nat → List (List Nat)
  | [] => [[]]
  | c :: l => if c = s then [] :: cuts s l else (c :: (cuts s l).headD []) :: (cuts s l).tail
theorem cuts_ne (s : Nat) : ∀ l, cuts s l ≠ []
  | [] => by simp [cuts]
  | c :: l => by unfold cuts; split <;> simp
theorem cuts_free (s : Nat) : ∀ l, ∀ p ∈ cuts s l, s ∉ p
  | [], p, h => by
    have : p = [] := by simpa [cuts] using h
    rw [this]; simp
  | c :: l, p, h => by
    unfold cuts at h
    split at h
    · rcases List.mem_cons.mp h with h | h
      · rw [h]; simp
      · exact cuts_free s l p h
    · rename_i hc
      rcases List.mem_cons.mp h with h | h
      · have hm : (cuts s l).headD [] ∈ cuts s l := by
          cases e : cuts s l with
          | nil => exact absurd e (cuts_ne s l)
          | cons x y => exact List.mem_cons_self
        rw [h, List.mem_cons, not_or]
        exact ⟨fun e => hc e.symm, cuts_free s l _ hm⟩
      · exact cuts_free s l p (List.mem_of_mem_tail h)
theorem joinL_cons_cons (S a b : List Nat) (r : List (List Nat)) : joinL S (a :: b :: r) = a ++ (S ++ joinL S (b :: r)) := rfl
theorem cuts_join (s : Nat) : ∀ l, joinL [s] (cuts s l) = l
  | [] => rfl
  | c :: l => by
    have ih := cuts_join s l
    unfold cuts
    cases e : cuts s l with
    | nil => exact absurd e (cuts_ne s l)
    | cons p r =>
      rw [e] at ih
      split
      · rename_i hc
        rw [joinL_cons_cons, ih, hc]
        rfl
      · cases r with
        | nil =>
          show c :: p = c :: l
          rw [← ih]; rfl
        | cons q r =>
          show joinL [s] ((c :: p) :: q :: r) = _
          rw [joinL_cons_cons, ← ih, joinL_cons_cons]
          rfl
/-- the words of a text, as lists of signs -/
theorem split_cuts {a b : Str} {s : Nat} (hb : tl b = [s]) (hs : s < 256) : (Txt.split a b).map tl = cuts s (tl a) := by
  have hk : b.cps.all (· < 256) = true := by
    rw [← Array.all_toList, show b.cps.toList = [s] from hb]
    simpa using hs
  rw [split_spl a b (by rw [hb]; simp) (kind_ok hk), hb]
  conv => lhs; rw [← cuts_join s (tl a)]
  exact spl_join (cuts_ne s _) (cuts_free s _)
def wordsOf (s : Nat) (a : Str) : List Str := (cuts s (tl a)).map fun l => ⟨l.toArray⟩
theorem split_words {a b : Str} {s : Nat} (hb : tl b = [s]) (hs : s < 256) : Txt.split a b = wordsOf s a := by
  refine map_tl_inj ?_
  rw [split_cuts hb hs, wordsOf, List.map_map]
  exact (List.map_id _).symm
theorem join_words {a b : Str} {s : Nat} (hb : tl b = [s]) : Txt.join b (wordsOf s a) = a := by
  refine ext_tl ?_
  rw [join_eq, tl_join, hb, wordsOf, List.map_map]
  have : (cuts s (tl a)).map (tl ∘ fun l => (⟨l.toArray⟩ : Str)) = cuts s (tl a) := List.map_id _
  rw [this, cuts_join]
theorem words_ne (s : Nat) (a : Str) : wordsOf s a ≠ [] := fun h => cuts_ne s _ (List.map_eq_nil_iff.mp h)
theorem cuts_len (s : Nat) : ∀ l, (cuts s l).length ≤ l.length + 1
  | [] => by simp [cuts]
  | c :: l => by
    have ih := cuts_len s l
    unfold cuts
    split
    · simp only [List.length_cons]; omega
    · simp only [List.length_cons, List.length_tail]
      have : 0 < (cuts s l).length := List.length_pos_iff.mpr (cuts_ne s l)
      omega
theorem cuts_mem (s : Nat) : ∀ l, ∀ p ∈ cuts s l, ∀ c ∈ p, c ∈ l
  | [], p, h, c, hc => by
    have : p = [] := by simpa [cuts] using h
    rw [this] at hc; cases hc
  | x :: l, p, h, c, hc => by
    unfold cuts at h
    split at h
    · rcases List.mem_cons.mp h with h | h
      · rw [h] at hc; cases hc
      · exact List.mem_cons_of_mem _ (cuts_mem s l p h c hc)
    · rcases List.mem_cons.mp h with h | h
      · have hm : (cuts s l).headD [] ∈ cuts s l := by
          cases e : cuts s l with
          | nil => exact absurd e (cuts_ne s l)
          | cons x y => exact List.mem_cons_self
        rw [h] at hc
        rcases List.mem_cons.mp hc with hc | hc
        · rw [hc]; exact List.mem_cons_self
        · exact List.mem_cons_of_mem _ (cuts_mem s l _ hm c hc)
      · exact List.mem_cons_of_mem _ (cuts_mem s l p (List.mem_of_mem_tail h) c hc)
theorem cuts_size (s : Nat) : ∀ l, ∀ p ∈ cuts s l, p.length ≤ l.length
  | [], p, h => by
    have : p = [] := by simpa [cuts] using h
    rw [this]; simp
  | x :: l, p, h => by
    unfold cuts at h
    split at h
    · rcases List.mem_cons.mp h with h | h
      · rw [h]; simp
      · have := cuts_size s l p h
        simp only [List.length_cons]; omega
    · rcases List.mem_cons.mp h with h | h
      · have hm : (cuts s l).headD [] ∈ cuts s l := by
          cases e : cuts s l with
          | nil => exact absurd e (cuts_ne s l)
          | cons x y => exact List.mem_cons_self
        have := cuts_size s l _ hm
        rw [h]; simp only [List.length_cons]; omega
      · have := cuts_size s l p (List.mem_of_mem_tail h)
        simp only [List.length_cons]; omega
/-- one cut: two parts -/
theorem cuts_two {s : Nat} {l : List Nat} : (cuts s l).length = l.count s + 1 := by
  induction l with
  | nil => simp [cuts]
  | cons c l ih =>
    unfold cuts
    split
    · rename_i h
      rw [h]; simp [ih]
    · rename_i h
      have : 0 < (cuts s l).length := List.length_pos_iff.mpr (cuts_ne s l)
      simp only [List.length_cons, List.length_tail]
      rw [List.count_cons_of_ne (fun e => h e)]
      omega
theorem cnt_count (c : Nat) : ∀ l : List Nat, cnt c l = (l.count c : Nat)
  | [] => by simp [cnt_nil]
  | x :: l => by
    rw [cnt_cons, cnt_count c l]
    by_cases h : x = c
    · rw [if_pos h, h]; simp; omega
    · rw [if_neg h, List.count_cons_of_ne h]; simp
theorem count_of {a b : Str} {s : Nat} (hb : tl b = [s]) : Txt.count a b = ((tl a).count s : Nat) := by
  have : b = ⟨#[s]⟩ := ext_tl hb
  rw [this, count_cnt, cnt_count]
end DL
end L2
set_option Elab.async false
set_option linter.all false
set_option maxRecDepth 100000
set_option maxHeartbeats 4000000
/-! what is walked while an error is handled -/
namespace L2
namespace DL
open PySem PySem.Spec PyProof.Rows
section
variable {X : Cx} {F : Fm} {g g1 g2 : G} {tg iter : Expr} {ds : List PyData} {pos : Pos}
theorem iSH_of {t : TI} (h : L2H.PIH X tg iter t) {σ : St} {H : Hp} {R : It → Hp → Prop} (q : t σ H R) : iSH X tg iter σ H R := fun pins s I => h.run pins s σ H R I q
theorem dih_list (h : DE X F g iter g1 (.d (.list ds))) : DIw X F g (iSH X tg iter) g1 ds := by
  refine ⟨h.dom, fun σ H R s q => iSH_of (L2H.pi_listH pe_s) (h.run σ H _ s fun v H1 s1 k1 x1 => ?_)⟩
  cases x1 with
  | @lst a xs _ a1 a2 =>
    refine ⟨a, rfl, ⟨xs, SqL.of (unhid _ _ a1)⟩, q _ H1 s1 k1 ⟨fun i H2 T d e m hi => ?_, fun i H2 T e hi => ⟨xs, SqL.of (unhid _ _ (e _ _ a1)), by rw [dpAll_length a2]; exact hi⟩⟩⟩
    have b1 := e _ _ a1
    obtain ⟨v, v1, v2⟩ := dpAll_get a2 hi
    refine ⟨⟨xs, v, SqL.of (unhid _ _ b1), v1⟩, fun x H' hy => ?_⟩
    obtain ⟨rfl, hy⟩ := hy
    have ev := hy xs (SqL.of (unhid _ _ b1))
    rw [v1] at ev
    cases ev
    exact ⟨Same.refl _, dp_mono e v2⟩
theorem dn_lcMH {elt : Expr} {scope : Scope} {own : List (Str × Nat)} {α : Type} {xs : List α} {f enc : α → PyData} (nd : X.N.Nodup) (hi : DIw X F g (iSH X tg iter) g1 (xs.map enc)) (h : ∀ x ∈ xs, ∃ g2 js, (∀ s0 H0 C cl fp F', DG (Bx X scope s0 H0 C cl fp) F' ⟨wipeS g1.sl (own.map (·.2)), g1.ow⟩ tg (.d (enc x)) g2 js) ∧ (∀ j ∈ js, j ∈ own.map (·.2)) ∧ (∀ s0 H0 C cl fp F', DE (Bx X scope s0 H0 C cl fp) F' g2 elt g2 (.d (f x))))
    (hz : xs.length ≤ 100000) (ok : BlkOk X.N X.env.scope scope own) (hot : L2H.HotC X) (hc : X.calm = false := by rfl) (hs : ∀ x, foldedSetIterable iter X.env x = pure x := by intro _; rfl) :
    DN X F g (.ListComp elt [⟨tg, iter, [], 0⟩] scope pos) g1 (.lst ((xs.map f).map .d)) := by
  have := dn_lcH (pos := pos) (own := own) (ifs := []) (fun i => ((xs.take i).filter fun _ => true).map f) (fun _ => g1.ow) nd hi (by simp) rfl (fun _ _ => rfl) (by simpa using hz) (lc_pure fun x hx => by
    obtain ⟨g2, js, a1, a2, a3⟩ := h x hx
    exact ⟨g2, js, a1, a2, fun _ _ _ _ _ _ => dts_nil, fun _ => a3⟩) ok hot hc hs
  rw [List.length_map, List.take_length, List.filter_eq_self.mpr (fun _ _ => rfl)] at this
  exact this
end
theorem eqv_bools : ∀ xs ys : List Bool, PyData.eqv (.list (xs.map .bool)) (.list (ys.map .bool)) = decide (xs = ys) := by
  have key : ∀ xs ys : List Bool, PyData.eqvAll (xs.map .bool) (ys.map .bool) = decide (xs = ys) := by
    intro xs
    induction xs with
    | nil => intro ys; cases ys <;> simp [PyData.eqvAll]
    | cons x xs ih =>
      intro ys
      cases ys with
      | nil => simp [PyData.eqvAll]
      | cons y ys =>
        rw [List.map_cons, List.map_cons, PyData.eqvAll, ih]
        by_cases h : x = y
        · subst h; simp [PyData.eqv]
        · simp [PyData.eqv, h]
  intro xs ys
  rw [PyData.eqv, key]
theorem pl_bools (bs : List Bool) : Pl 1 (.list (bs.map .bool)) := pl_list (pl_map fun _ _ => pl_bl _)
end DL
end L2
set_option Elab.async false
set_option linter.all false
set_option maxRecDepth 100000
set_option maxHeartbeats 4000000
/-! lambdas: made in a def, handed to another, called there; the heap at a call as a base -/
namespace L2
namespace DL
open PySem PySem.Spec PyProof.Rows LamX
/-- what a lambda's object tells -/
structure Lm where
  q : Str
  params : Arguments
  body : Expr
  scope : Scope
  cl : List (Str × Addr)
  pm : Value
  c : Addr
  ct : Value
  dV : Value
  doc : Value
abbrev lamObj (m : Lm) : Obj := PySem.W.kdv_obj "<lambda>" m.q m.params (.expr m.body) m.scope m.cl m.dV m.doc m.pm m.c m.ct
def LamO (f : Addr) (m : Lm) : HO := .ext fun h => h.get? f = some (lamObj m)
theorem lamO_ok {P : Program} {w : World} {H : Hp} {h : Heap} {f : Addr} {m : Lm} (e : h.get? f = some (lamObj m)) : ObjOk P w H h f (LamO f m) := ⟨e, ⟨_, e⟩, fun _ _ z k => k _ z⟩
theorem lamO_at {P : Program} {w : World} {H : Hp} {h : Heap} {f : Addr} {m : Lm} (hok : HOk P w H h) (e : H f = some (LamO f m)) : h.get? f = some (lamObj m) := by
  have x : ObjOk P w H h f (.ext fun h => h.get? f = some (lamObj m)) := hok f _ e
  exact x.1
/-- the tuple of one default -/
def DflO (T : Addr) (v : Value) : HO := .ext fun h => h.get? T = some (PySem.W.kdv_tup [v])
theorem dflO_at {P : Program} {w : World} {H : Hp} {h : Heap} {T : Addr} {v : Value} (hok : HOk P w H h) (e : H T = some (DflO T v)) : h.get? T = some (PySem.W.kdv_tup [v]) := by
  have x : ObjOk P w H h T (.ext fun h => h.get? T = some (PySem.W.kdv_tup [v])) := hok T _ e
  exact x.1
/-- what a lambda keeps for the defaults that its text tells -/
def DfOk (H : Hp) : List Expr → Value → Prop
  | [], dV => dV = .none
  | [_], dV => ∃ T v, dV = .ref T ∧ H T = some (DflO T v)
  | _, _ => False
theorem dfOk_mono {H H' : Hp} (e : Same H H') : ∀ {ds : List Expr} {dV : Value}, DfOk H ds dV → DfOk H' ds dV
  | [], _, h => h
  | [_], _, ⟨T, v, h1, h2⟩ => ⟨T, v, h1, e _ _ h2⟩
  | _ :: _ :: _, _, h => h.elim
section
variable {X : Cx} {pins : List (Addr × Obj)} {σ : St} {H : Hp} {s : Shared}
theorem lam_tail3 {c P : Addr} {params : Arguments} {body : Expr} {scope : Scope} {pos : Pos} {ps : Array Value} {E : Value → Shared → Prop} {Q : Value → Shared → Prop} {dV : Value} (I : Inv X pins σ H s) (TB : TabB X.base X.mg c P) (hcode : X.env.code = .ref c)
    (hP : H P = some (.tbl ps)) (ht : TriplesOk ps.toList) (ha : ∀ p cv, codeAmong p ps.toList = some cv → ∃ c, cv = .ref c ∧ H c = some (CodeO c (X.env.qual ++ "<lambda>"))) (hfree : ∀ y ∈ scope.names, y.2 = .free → ∃ c, X.env.cells.lookup y.1 = some c)
    (h : ∀ (f : Addr) (m : Lm) (ps' : Array Value) (H1 : Hp) (s' : Shared), m.q = X.env.qual ++ "<lambda>" → m.params = params → m.body = body → m.scope = scope → m.cl = cloFrom X.env.cells scope.names [] → m.dV = dV → Inv X pins σ H1 s' → (∀ b o, b ≠ P → H b = some o → H1 b = some o) → H1 P = some (.tbl ps') → TriplesOk ps'.toList →
      (∀ p cv, codeAmong p ps'.toList = some cv → codeAmong p ps.toList = some cv ∨ cv = .ref m.c) → H f = none → H1 f = some (LamO f m) → H1 m.c = some (CodeO m.c (X.env.qual ++ "<lambda>")) → (H m.c = none ∨ ∃ p, codeAmong p ps.toList = some (.ref m.c)) → Q (.ref f) s') :
    wpAny (model X.prog X.w) X.A (makeTail "<lambda>" (X.env.qual ++ "<lambda>") params (.expr body) scope X.env dV .none none pos pos.line) Q E s := by
  have bP : s.heap.BuiltinsAt X.mg P := TB.bm.keeps I.bk
  have hP' : s.heap.get? P = some { cls := .none, data := .fields ps } := I.hok P _ hP
  cases hc : codeAmong pos ps.toList with
  | none =>
    refine PySem.W.kdv_makeTail (mg := X.mg) (c := c) (P := P) (ps := ps) (closure_ok hfree) I.ok.glob (I.mod.glob.keeps I.bk) hcode (TB.code.keeps I.bk) hP' ht hc TB.gP bP fun c' ctv doc h' tk hx hge hlt hrec htb => ?_
    obtain ⟨c2, oc, vs, t, e2, hoc, hd, hv⟩ := hrec
    cases e2
    have nC : H c' = none := I.hok.fresh hge
    have I1 := inv_table (t' := tk) (more := #[rawInt pos.line, rawInt pos.col, .ref c']) I hP (fun b o hb e => hx b o hb e) htb hge ⟨oc, vs, t, hoc, hd, hv⟩
    have nPc : P ≠ c' := ne_of_none hP nC
    have fr : (upd (upd H P (.tbl (ps ++ #[rawInt pos.line, rawInt pos.col, .ref c']))) c' (CodeO c' (X.env.qual ++ "<lambda>"))) h'.objs.size = none := I1.hok.fresh (Nat.le_refl _)
    have I2 := I1.laid (t' := tk) (a := h'.objs.size) (o := LamO h'.objs.size ⟨X.env.qual ++ "<lambda>", params, body, scope, cloFrom X.env.cells scope.names [], (X.mg "__name__").getD .none, c', ctv, dV, doc⟩) (h' := h'.push (PySem.W.kdv_obj "<lambda>" (X.env.qual ++ "<lambda>") params (.expr body) scope (cloFrom X.env.cells scope.names []) dV doc ((X.mg "__name__").getD .none) c' ctv))
      (fun b o e => Heap.get?_push_of_some _ e) (Nat.le_refl _) (lamO_ok (Heap.get?_push_size _ rfl))
    have nf1 : h'.objs.size ≠ c' := Nat.ne_of_gt hlt
    have nf2 : h'.objs.size ≠ P := fun e => by rw [e, upd_ne nPc, upd_same] at fr; cases fr
    have eL : (ps ++ #[rawInt pos.line, rawInt pos.col, .ref c']).toList = ps.toList ++ [rawInt pos.line, rawInt pos.col, .ref c'] := by simp
    refine h h'.objs.size ⟨X.env.qual ++ "<lambda>", params, body, scope, cloFrom X.env.cells scope.names [], (X.mg "__name__").getD .none, c', ctv, dV, doc⟩ (ps ++ #[rawInt pos.line, rawInt pos.col, .ref c']) _ _ rfl rfl rfl rfl rfl rfl I2 (fun b o hb e => ?_) ?_ (by rw [eL]; exact PySem.TriplesOk_snoc _ _ _ _ ht) (fun p cv z => ?_) ?_ upd_same ?_ (.inl nC)
    · have n1 : b ≠ h'.objs.size := fun z => by rw [upd_ne nf1, upd_ne nf2, ← z, e] at fr; cases fr
      rw [upd_ne n1, upd_ne (ne_of_none e nC), upd_ne hb]
      exact e
    · rw [upd_ne (Ne.symm nf2), upd_ne nPc, upd_same]
    · rw [eL] at z
      exact among_app (pos := pos) _ ht z
    · rw [upd_ne nf1, upd_ne nf2] at fr
      exact fr
    · show upd _ _ _ c' = _
      rw [upd_ne (Ne.symm nf1), upd_same]
  | some cv =>
    obtain ⟨c', e, hco⟩ := ha pos cv hc
    subst e
    refine PySem.W.kdv_makeTailHit (mg := X.mg) (c := c) (P := P) (ps := ps) (closure_ok hfree) I.ok.glob (I.mod.glob.keeps I.bk) hcode (TB.code.keeps I.bk) hP' ht hc bP fun ctv doc h' tk hx hsz => ?_
    have I1 : Inv X pins σ H { s with heap := h', toks := tk } := I.kept hx
    have fr : H h'.objs.size = none := I.hok.fresh hsz
    have I2 := I1.laid (t' := tk) (a := h'.objs.size) (o := LamO h'.objs.size ⟨X.env.qual ++ "<lambda>", params, body, scope, cloFrom X.env.cells scope.names [], (X.mg "__name__").getD .none, c', ctv, dV, doc⟩) (h' := h'.push (PySem.W.kdv_obj "<lambda>" (X.env.qual ++ "<lambda>") params (.expr body) scope (cloFrom X.env.cells scope.names []) dV doc ((X.mg "__name__").getD .none) c' ctv))
      (fun b o e => Heap.get?_push_of_some _ e) (Nat.le_refl _) (lamO_ok (Heap.get?_push_size _ rfl))
    have up : ∀ b o, H b = some o → upd H h'.objs.size (LamO h'.objs.size ⟨X.env.qual ++ "<lambda>", params, body, scope, cloFrom X.env.cells scope.names [], (X.mg "__name__").getD .none, c', ctv, dV, doc⟩) b = some o := fun b o e => by rw [upd_ne (ne_of_none e fr)]; exact e
    exact h h'.objs.size ⟨X.env.qual ++ "<lambda>", params, body, scope, cloFrom X.env.cells scope.names [], (X.mg "__name__").getD .none, c', ctv, dV, doc⟩ ps _ _ rfl rfl rfl rfl rfl rfl I2 (fun b o _ e => up b o e) (up _ _ hP) ht (fun p cv z => .inl z) fr upd_same (up _ _ hco) (.inr ⟨pos, hc⟩)
theorem lam_make3 {c P : Addr} {params : Arguments} {body : Expr} {scope : Scope} {pos : Pos} {ps : Array Value} {E : Value → Shared → Prop} {Q : Value → Shared → Prop} (I : Inv X pins σ H s) (TB : TabB X.base X.mg c P) (hcode : X.env.code = .ref c)
    (hP : H P = some (.tbl ps)) (ht : TriplesOk ps.toList) (ha : ∀ p cv, codeAmong p ps.toList = some cv → ∃ c, cv = .ref c ∧ H c = some (CodeO c (X.env.qual ++ "<lambda>"))) (hd : params.defaults = []) (hk : params.kw_defaults = []) (hfree : ∀ y ∈ scope.names, y.2 = .free → ∃ c, X.env.cells.lookup y.1 = some c)
    (h : ∀ (f : Addr) (m : Lm) (ps' : Array Value) (H1 : Hp) (s' : Shared), m.q = X.env.qual ++ "<lambda>" → m.params = params → m.body = body → m.scope = scope → m.cl = cloFrom X.env.cells scope.names [] → DfOk H1 params.defaults m.dV → Inv X pins σ H1 s' → (∀ b o, b ≠ P → H b = some o → H1 b = some o) → H1 P = some (.tbl ps') → TriplesOk ps'.toList →
      (∀ p cv, codeAmong p ps'.toList = some cv → codeAmong p ps.toList = some cv ∨ cv = .ref m.c) → H f = none → H1 f = some (LamO f m) → H1 m.c = some (CodeO m.c (X.env.qual ++ "<lambda>")) → (H m.c = none ∨ ∃ p, codeAmong p ps.toList = some (.ref m.c)) → (∀ T, m.dV = .ref T → H T = none) → Q (.ref f) s') :
    wpAny (model X.prog X.w) X.A (eval (.Lambda params body scope pos) X.env) Q E s := by
  refine PySem.W.kla_eval (by rw [defaultsOf_eq, hd, hk]; rfl) ?_
  rw [makeFunction_eq]
  simp only [List.zip_nil_right, List.filterMap_nil, List.isEmpty_nil, if_true, pure_bind]
  exact lam_tail3 I TB hcode hP ht ha hfree fun f m ps' H1 s' e1 e2 e3 e4 e5 e6 I1 a1 a2 a3 a4 a5 a6 a7 a8 => h f m ps' H1 s' e1 e2 e3 e4 e5 (by rw [hd]; exact e6) I1 a1 a2 a3 a4 a5 a6 a7 a8 fun T e => by rw [e6] at e; cases e
/-- .. with one default -/
theorem lam_makeD {c P : Addr} {params : Arguments} {body e : Expr} {scope : Scope} {pos : Pos} {ps : Array Value} {te : TE} {Q : Value → Shared → Prop} (I : Inv X pins σ H s) (TB : TabB X.base X.mg c P) (hcode : X.env.code = .ref c)
    (hP : H P = some (.tbl ps)) (ht : TriplesOk ps.toList) (ha : ∀ p cv, codeAmong p ps.toList = some cv → ∃ c, cv = .ref c ∧ H c = some (CodeO c (X.env.qual ++ "<lambda>"))) (hd : params.defaults = [e]) (hk : params.kw_defaults = []) (hfree : ∀ y ∈ scope.names, y.2 = .free → ∃ c, X.env.cells.lookup y.1 = some c)
    (pe : PE X e te) (he : ∀ R : VK, (∀ v, R v H) → te σ H R)
    (h : ∀ (f : Addr) (m : Lm) (ps' : Array Value) (H1 : Hp) (s' : Shared), m.q = X.env.qual ++ "<lambda>" → m.params = params → m.body = body → m.scope = scope → m.cl = cloFrom X.env.cells scope.names [] → DfOk H1 params.defaults m.dV → Inv X pins σ H1 s' → (∀ b o, b ≠ P → H b = some o → H1 b = some o) → H1 P = some (.tbl ps') → TriplesOk ps'.toList →
      (∀ p cv, codeAmong p ps'.toList = some cv → codeAmong p ps.toList = some cv ∨ cv = .ref m.c) → H f = none → H1 f = some (LamO f m) → H1 m.c = some (CodeO m.c (X.env.qual ++ "<lambda>")) → (H m.c = none ∨ ∃ p, codeAmong p ps.toList = some (.ref m.c)) → (∀ T, m.dV = .ref T → H T = none) → Q (.ref f) s') :
    wpAny (model X.prog X.w) X.A (eval (.Lambda params body scope pos) X.env) Q X.xe s := by
  refine PySem.W.kdv_lam (by rw [hd]; rfl) hk ?_
  rw [hd]
  refine PySem.W.kdv_all1 (wpAny_mono (pe.run pins s σ H (fun v H1 => H1 = H) I (he _ fun _ => rfl)) (fun u s1 hu => ?_) fun _ _ x => x)
  obtain ⟨v, H1, I1, rv, rfl⟩ := hu
  refine PySem.W.kdv_all0 ?_
  rw [makeFunction_eq]
  simp only [List.zip_nil_right, List.filterMap_nil, List.isEmpty_nil, if_true, pure_bind, List.isEmpty_cons, Bool.false_eq_true, if_false]
  refine wpAny_bind (wpAny_newTextTuple ?_)
  have fr : H1 s1.heap.objs.size = none := I1.hok.fresh (Nat.le_refl _)
  have I2 := I1.laid (t' := s1.toks) (a := s1.heap.objs.size) (o := DflO s1.heap.objs.size u) (h' := s1.heap.push (PySem.W.kdv_tup [u])) (fun b o e => Heap.get?_push_of_some _ e) (Nat.le_refl _) ⟨Heap.get?_push_size _ rfl, ⟨_, Heap.get?_push_size _ rfl⟩, fun _ _ z k => k _ z⟩
  have up : ∀ b o, H1 b = some o → upd H1 s1.heap.objs.size (DflO s1.heap.objs.size u) b = some o := fun b o e => by rw [upd_ne (ne_of_none e fr)]; exact e
  have dn : ∀ b, upd H1 s1.heap.objs.size (DflO s1.heap.objs.size u) b = none → H1 b = none := fun b e => by
    cases z : H1 b with
    | none => rfl
    | some o => rw [up b o z] at e; cases e
  refine lam_tail3 (dV := .ref s1.heap.objs.size) I2 TB hcode (up _ _ hP) ht (fun p cv z => let ⟨c, a, b⟩ := ha p cv z; ⟨c, a, up _ _ b⟩) hfree fun f m ps' H2 s' e1 e2 e3 e4 e5 e6 I3 a1 a2 a3 a4 a5 a6 a7 a8 => ?_
  refine h f m ps' H2 s' e1 e2 e3 e4 e5 (by rw [hd]; exact ⟨_, u, e6, a1 _ _ (fun z => by rw [z, hP] at fr; cases fr) upd_same⟩) I3 (fun b o n e => a1 b o n (up _ _ e)) a2 a3 a4 (dn _ a5) a6 a7 ?_ fun T e => by rw [e6] at e; cases e; exact fr
  rcases a8 with z | z
  · exact .inl (dn _ z)
  · exact .inr z
/-- the state at a call as a base: all that is not tracked, but the frames -/
theorem _root_.L2.Inv.ground (I : Inv X pins σ H s) : ∃ B : Heap, Env0 X.prog X.w X.K X.mg B X.A X.stack s H ∧ ∀ b o, s.heap.get? b = some o → H b = none → b ∉ frs X.stack → B.get? b = some o := by
  refine ⟨PySem.W.hideAll (hidT s.heap H) (frs X.stack), ?_, fun b o e n m => PySem.W.hideAll_get _ (hidT_get e n) m⟩
  have kp : ∀ b o, X.base.get? b = some o → (PySem.W.hideAll (hidT s.heap H) (frs X.stack)).get? b = some o := fun b o e => by
    obtain ⟨h1, h2⟩ := I.bs b o e
    refine PySem.W.hideAll_get _ (hidT_get h1 h2) fun m => ?_
    have := (I.stack.mem m).1
    rw [e] at this
    cases this
  obtain ⟨kin, gl, ⟨mb, b1, b2⟩, nl⟩ := I.ok.mod
  refine ⟨I.ok.frames, ⟨fun a o e => kp a o (kin a o e), gl.keeps kp, ⟨mb, b1.keeps kp, b2⟩, nl.keeps kp⟩, fun b o e => of_hidT (PySem.W.of_hideAll _ e), ?_, funFrames_none I.stack fun L m => PySem.W.hideAll_none _ m, I.stkFree, I.hok, I.bare⟩
  rw [PySem.W.hideAll_size, hidT_size]
  exact Nat.le_refl _
/-- what a base knows of the cells of X's names -/
structure CellsAt (X : Cx) (σ : St) (B : Heap) : Prop where
  val : ∀ (i : Nat) (x : Str) (v : V), X.N[i]? = some x → σ[i]? = some (some v) → X.env.kindOf x = some .cell → ∃ c u, X.env.cells.lookup x = some c ∧ B.IsCell c (some u) ∧ RelV v u
  all : ∀ y c, X.env.cells.lookup y = some c → ∃ v, B.IsCell c v
  inj : ∀ x y c, X.env.cells.lookup x = some c → X.env.cells.lookup y = some c → x = y
  has : ∀ x, X.env.kindOf x = some .cell → ∃ c, X.env.cells.lookup x = some c
theorem _root_.L2.Inv.cellsAt (I : Inv X pins σ H s) (hf : ∀ y, X.fn y = true) {B : Heap} (kp : ∀ b o, s.heap.get? b = some o → H b = none → b ∉ frs X.stack → B.get? b = some o) : CellsAt X σ B := by
  have nfr : ∀ x c, X.env.cells.lookup x = some c → c ∉ frs X.stack := fun x c e m => by
    rcases List.mem_cons.mp (I.stkSub c m) with z | z
    · exact I.cne x c e z
    · obtain ⟨_, o, ho, _⟩ := I.ok.funs.mem z
      exact absurd (Nat.lt_of_lt_of_le (Heap.lt_size ho) (I.ok.cab x c (hf x) e)) (Nat.lt_irrefl _)
  have cell : ∀ x c v, X.env.cells.lookup x = some c → s.heap.IsCell c v → B.IsCell c v := fun x c v e ⟨o, ho, hd⟩ => ⟨o, kp c o ho (I.freeC x c e) (nfr x c e), hd⟩
  refine ⟨fun i x v hN hσ hk => ?_, fun y c e => ?_, I.ok.inj, fun x hk => I.ok.has x (.inl hk)⟩
  · obtain ⟨m, hn, hl⟩ := I.loc
    obtain ⟨u, r, q⟩ := hl i x v hN hσ (.inr (.inl hk))
    rcases q with ⟨k, _⟩ | ⟨_, c, e, z⟩
    · rw [hk] at k; cases k
    · exact ⟨c, u, e, cell x c _ e z, r⟩
  · obtain ⟨v, z⟩ := I.cell y c e
    exact ⟨v, cell y c v e z⟩
end
/-! ### a lambda's run -/
section
variable {P : Program} {w : World} {K : PySem.W.Frag} {mg : Str → Option Value} {base : Heap}
def LamRun (P : Program) (w : World) (K : PySem.W.Frag) (mg : Str → Option Value) (base : Heap) (k : Nat) (q : Str) (params : Arguments) (body : Expr) (scope : Scope) (cl : List (Str × Addr)) (sp : Sp) : Prop :=
  ∀ (A : Around) (outer : List Env) (s : Shared) (H : Hp) (Q : VK) (E : XK) (f : Addr) (m : Lm), Room k A → Env0 P w K mg base A outer s H → m.q = q → m.params = params → m.body = body → m.scope = scope → m.cl = cl → DfOk H params.defaults m.dV → H f = some (LamO f m) → H m.c = some (CodeO m.c q) → sp [] H Q E →
    codeAny (model P w) A (.call (.ref f) ⟨[], []⟩) (CR (L2N.CX P w) outer P w H s Q E) s
/-- captured values, read as data -/
def spCap (K : PySem.W.Frag) (vals : List V) (R : List PyData → Out → Prop) : Sp := fun _ H Q E => ∃ (S : List Addr) (ds : List PyData) (o : Out), (∀ a ∈ S, H a ≠ none) ∧ DtAll K (hid S H) vals ds ∧ R ds o ∧
  match o with
  | .ok d => ∀ v H', Same H H' → Dt K (hid S H') v d → Q v H'
  | .ex C fs => ∀ dd H', Same H H' → ExOk K (hid S H') fs dd → E (.ref C) dd H'
abbrev lamEnv3 (q : Str) (scope : Scope) (cl : List (Str × Addr)) (L f c : Addr) : Env := PySem.W.envX q scope L f (.ref c) cl
/-- the context of a lambda's body -/
abbrev lamX (P : Program) (w : World) (K : PySem.W.Frag) (mg : Str → Option Value) (base : Heap) (ns : List Str) (q : Str) (scope : Scope) (cl : List (Str × Addr)) (f c : Addr) (A : Around) (outer : List Env) (s : Shared) (H : Hp) (E : XK) : Cx where
  prog := P
  w := w
  K := K
  mg := mg
  base := base
  A := A.deeper (lamEnv3 q scope cl s.heap.objs.size f c)
  N := ns
  s_0 := s
  H_0 := H
  env := lamEnv3 q scope cl s.heap.objs.size f c
  outer := outer
  stack := lamEnv3 q scope cl s.heap.objs.size f c :: outer
  ex := []
  fn := fun _ => false
  calm := true
  pn := []
  xe := fun e s' => wpAny (model P w) (A.deeper (lamEnv3 q scope cl s.heap.objs.size f c)) (leaving (lamEnv3 q scope cl s.heap.objs.size f c) e) (fun _ s'' => L2N.CX P w outer H s E e s'') (fun e' s'' => L2N.CX P w outer H s E e' s'') s'
/-- what is asked of a lambda's scope and cells -/
structure LamC (base : Heap) (ns : List Str) (scope : Scope) (cl : List (Str × Addr)) (vals : List V) : Prop where
  kind : scope.kind = .function
  co : scope.isCoroutine = false
  gen : scope.isGenerator = false
  own : ∀ y ∈ scope.names, y.2 ≠ .cell
  nsf : ∀ x ∈ ns, scope.names.lookup x = some .free
  free : ∀ y ∈ scope.names, y.2 = .free → ∃ c, cl.lookup y.1 = some c
  inj : ∀ (x y : Str) (c : Addr), cl.lookup x = some c → cl.lookup y = some c → x = y
  all : ∀ (y : Str) (c : Addr), cl.lookup y = some c → ∃ v, base.IsCell c v
  len : vals.length = ns.length
  val : ∀ (i : Nat) (x : Str) (v : V), ns[i]? = some x → vals[i]? = some v → ∃ c u, cl.lookup x = some c ∧ base.IsCell c (some u) ∧ RelV v u
theorem lam_start3 {ns : List Str} {q : Str} {scope : Scope} {cl : List (Str × Addr)} {vals : List V} {f c : Addr} {A : Around} {outer : List Env} {s : Shared} {H : Hp} {E : XK} {h₁ : Heap} {tk : Nat} (L : LamC base ns scope cl vals) (hd : A.handled = none) (e0 : Env0 P w K mg base A outer s H)
    {bs : List (Str × Value)} (hns : h₁.Ns s.heap.objs.size fun y => bs.reverse.lookup y) (kp : ∀ b o, s.heap.get? b = some o → h₁.get? b = some o) :
    Inv (lamX P w K mg base ns q scope cl f c A outer s H E) [] (vals.map some) H { s with heap := h₁, toks := tk } := by
  have noA : ∀ b : Addr, b ∉ (lamX P w K mg base ns q scope cl f c A outer s H E).ex := fun b z => absurd (show b ∈ ([] : List Addr) from z) (by simp)
  have cellB : ∀ {c : Addr} {v : Option Value}, base.IsCell c v → h₁.IsCell c v ∧ H c = none := fun {c v} ⟨o, ho, hdd⟩ => ⟨⟨o, kp _ _ (e0.bs c o ho).1, hdd⟩, (e0.bs c o ho).2⟩
  refine ⟨⟨e0.mod, L.kind, rfl, rfl, Nat.le_refl _, L.inj, fun y hy => ?_, fun y c z _ => ?_, fun _ => hd, Around.frames_deeper e0.frames, .inr ⟨rfl, rfl⟩, fun b z => absurd z (noA b), e0.bs, e0.bsz, fun b _ _ => noA b, fun b z => absurd z (noA b), e0.funs, e0.frf⟩,
    rfl, e0.bare, Un.kept kp, ⟨_, hns, fun i y v e1 e2 e3 => ?_⟩, fun y c e => ?_, e0.hok.fresh (Nat.le_refl _), fun y c e => ?_, fun p hp => absurd (show p ∈ ([] : List (Addr × Obj)) ++ [] from hp) (by simp), e0.hok.kept kp, by rw [List.length_map]; exact L.len⟩
  · have hy : scope.names.lookup y = some .cell ∨ scope.names.lookup y = some .free := hy
    rcases hy with hy | hy
    · exact absurd rfl (L.own _ (PySem.mem_of_lookup hy))
    · exact L.free _ (PySem.mem_of_lookup hy) rfl
  · have z : false = true := z
    cases z
  · have e3 : Vis scope y := e3
    have hv : vals[i]? = some v := by
      rw [List.getElem?_map] at e2
      cases z : vals[i]? with
      | none => rw [z] at e2; cases e2
      | some x => rw [z] at e2; cases e2; rfl
    obtain ⟨c, u, h1, h2, h3⟩ := L.val i y v e1 hv
    rcases e3 with k | k | k
    · rw [L.nsf y (List.mem_of_getElem? e1)] at k; cases k
    · exact absurd rfl (L.own _ (PySem.mem_of_lookup k))
    · exact ⟨u, h3, .inr ⟨.inr k, c, h1, (cellB h2).1⟩⟩
  · obtain ⟨v, z⟩ := L.all y c e
    exact ⟨v, (cellB z).1⟩
  · obtain ⟨v, z⟩ := L.all y c e
    exact (cellB z).2
theorem lamRun_of {k : Nat} {ns : List Str} {q : Str} {params : Arguments} {body : Expr} {scope : Scope} {cl : List (Str × Addr)} {vals : List V} {R : List PyData → Out → Prop} (L : LamC base ns scope cl vals)
    (hbind : ∀ (pm cv ctv dV doc : Value) (s : Shared) (H : Hp), DfOk H params.defaults dV → HOk P w H s.heap → ∃ bs, BindsTo s (PySem.W.kdv_fn "<lambda>" q params (.expr body) scope cl dV doc pm cv ctv) ⟨[], []⟩ bs ∧ ∀ x ∈ bs, scope.names.lookup x.1 = some .local)
    (hb : ∀ A outer s H E f c, Room k (A.deeper (lamEnv3 q scope cl s.heap.objs.size f c)) → ∀ F ds o, F.M = [] → ds.length = ns.length → R ds o → DR (lamX P w K mg base ns q scope cl f c A outer s H E) F ⟨ds.map .d, []⟩ body ⟨ds.map .d, []⟩ o) :
    LamRun P w K mg base (k + 1) q params body scope cl (spCap K vals R) := by
  intro A outer s H Q E f m hr e0 h1 h2 h3 h4 h5 hdf hf hc hsp
  subst h1 h2 h3 h4 h5
  obtain ⟨⟨oc, vs, t, hoc, hdc, hvc⟩, _, _⟩ := e0.hok m.c _ hc
  obtain ⟨S, ds, o, hS, hd, hR, q⟩ := hsp
  have lim : s.heap.NoLimit := e0.mod.nolimit.keeps fun b o e => (e0.bs b o e).1
  refine PySem.W.kla_callFunE hr.depth (lamO_at e0.hok hf) rfl L.co L.gen rfl ⟨m.c, oc, vs, t, rfl, hoc, hdc, hvc⟩ ?_
  obtain ⟨bs, hb1, hb2⟩ := hbind m.pm (.ref m.c) m.ct m.dV m.doc s H hdf e0.hok
  refine hb1 _ _ _ _ (wpAny_newFunctionEnv (fun y hy => L.own y hy) hb2 (fun h₁ hns hsb => ⟨lim.fresh _ hsb, ?_⟩) L.kind)
  show codeAny _ _ (.expr m.body (lamEnv3 m.q m.scope m.cl s.heap.objs.size f m.c)) _ _
  have kp : ∀ b o, s.heap.get? b = some o → h₁.get? b = some o := fun b o e => hsb.extBut b o (Nat.ne_of_lt (Heap.lt_size e)) (Heap.get?_push_of_some _ e)
  have J := lam_start3 (q := m.q) (f := f) (c := m.c) (E := E) (tk := s.toks + bs.length) L hr.hd e0 hns kp
  have D := hb A outer s H E f m.c (hr.deeper _) ⟨S, H, []⟩ ds o rfl (by rw [← dpAll_length hd, L.len]) hR
  have sat : Sat K ⟨S, H, []⟩ ⟨ds.map .d, []⟩ (vals.map some) H := by
    refine ⟨?_, fun p hp => absurd hp (by simp), List.nodup_nil, fun b o e _ => e, fun a m => absurd m (by simp), fun a m => ⟨hS a m, by simp⟩, fun a m => absurd m (by simp)⟩
    show Paired (SlOk K (hid (S ++ []) H)) (vals.map some) (ds.map .d)
    rw [List.append_nil]
    have : ∀ {vs : List V} {ds : List PyData}, DtAll K (hid S H) vs ds → Paired (SlOk K (hid S H)) (vs.map some) (ds.map .d) := by
      intro vs
      induction vs with
      | nil => intro ds h; cases h; exact .nil
      | cons v vs ih => intro ds h; cases h with | cons a b => exact .cons a (ih b)
    exact this hd
  refine PySem.W.kla_codeExpr (wpAny_mono ((D.run _ H Q sat ?_) [] _ J) (fun v s' hq => ?_) fun e s' hq => hq)
  · have up : ∀ (H' : Hp), Same (hid (S ++ []) H') (hid S H') := fun H' => by rw [List.append_nil]; exact Same.refl _
    cases o with
    | ok d => exact fun v H' s' k x => q v H' (fun b o e => s'.ex b o e (by simp)) (dp_mono (up H') x)
    | ex C fs => exact fun dd H' s' x => ⟨fun cls d _ H => E cls d H, L2N.takes_of rfl rfl rfl rfl, q dd H' (fun b o e => s'.ex b o e (by simp)) (exOk_mono (up H') x)⟩
  · obtain ⟨w', H', J', rv, q'⟩ := hq
    exact ⟨w', H', J'.os, J'.bare, J'.base, J'.hok, rv, q'⟩
/-- a lambda ready to be called -/
def IsAct (P : Program) (w : World) (K : PySem.W.Frag) (mg : Str → Option Value) (base : Heap) (k : Nat) (R : List PyData → Out → Prop) (ds : List PyData) : V → Hp → Prop := fun v H => ∃ (f : Addr) (m : Lm) (vals : List V), v = .ref f ∧ DfOk H m.params.defaults m.dV ∧ H f = some (LamO f m) ∧ H m.c = some (CodeO m.c m.q) ∧ DtAll K H vals ds ∧ LamRun P w K mg base k m.q m.params m.body m.scope m.cl (spCap K vals R)
theorem isAct_mono {k : Nat} {R : List PyData → Out → Prop} {ds : List PyData} : ∀ v H H', Same H H' → IsAct P w K mg base k R ds v H → IsAct P w K mg base k R ds v H' := fun v H H' e ⟨f, m, vals, h1, h0, h2, h3, h4, h5⟩ => ⟨f, m, vals, h1, dfOk_mono e h0, e _ _ h2, e _ _ h3, dpAll_mono e h4, h5⟩
end
section
variable {X : Cx} {F : Fm} {g : G} {p1 p2 : Pos}
theorem dr_act (i : Nat) {a : Str} {k j : Nat} {R : List PyData → Out → Prop} {ds : List PyData} {o : Out} (hR : R ds o) (hr : Room j X.A) (hs : g.sl[i]? = some (.p (IsAct X.prog X.w X.K X.mg X.base k R ds) isAct_mono) := by rfl) (hk : k ≤ j := by decide) (hN : X.N[i]? = some a := by rfl)
    (hv : Vis X.env.scope a := by first | exact Or.inl rfl | exact Or.inr (Or.inl rfl) | exact Or.inr (Or.inr rfl)) (hd : (a == ("__debug__" : Str)) = false := by decide) (hcd : (a == ("__classdict__" : Str)) = false := by decide) : DR X F g (.Call (.Name a p1) [] [] p2) g o := by
  refine ⟨rfl, fun σ H Q s q pins s' I => ?_⟩
  obtain ⟨ov, e1, e2⟩ := sat_slot s hs
  cases ov with
  | none => exact e2.elim
  | some v =>
    obtain ⟨f, m, vals, ev, hdf, hf, hc, hd', hrun⟩ : IsAct X.prog X.w X.K X.mg X.base k R ds v (F.hd g H) := e2
    subst ev
    refine wpAny_Call_Name_kw (thn ((pe_var (pos := p1) (i := i) hN hv hd hcd).run pins s' σ H (fun v H1 => v = .ref f ∧ H1 = H) I ⟨.ref f, e1, rfl, rfl⟩) fun u s1 ⟨v, H1, I1, r1, q1⟩ => ?_)
    obtain ⟨ev, eH⟩ := q1
    subst ev
    rw [eH] at I1
    obtain rfl : u = Value.ref f := r1
    have of1 := lamO_at I1.hok (unhid _ _ hf)
    refine PySem.W.callWith_F0 ⟨_, _, _, _, of1⟩ ?_
    refine wpAny_call (codeAny_mono (hrun X.A X.stack s1 H Q (fun cls d H' => XEnd X cls d σ H') f m (hr.mono hk) I1.env0 rfl rfl rfl rfl rfl (dfOk_mono unhid hdf) (unhid _ _ hf) (unhid _ _ hc) ?_) fun r s2 hq => ?_)
    · refine ⟨F.S ++ g.dom, ds, o, fun a mm => s.hidIn mm, hd', hR, ?_⟩
      cases o with
      | ok d => exact fun v H' e x => q v H' (s.grow e) (hid_same e) x
      | ex C fs => exact fun dd H' e x => q dd H' (s.grow e) x
    · match r, hq with
      | .error e, hq => exact L2N.passAt takes_xend σ pins H s1 e s2 I1 hq
      | .ok (.ret u), hq => exact I1.after hq
      | .ok .next, hq => exact hq.elim
      | .ok .brk, hq => exact hq.elim
      | .ok .cont, hq => exact hq.elim
end
/-! ### a def called with a promise over the state at the call -/
structure CalF (P : Program) (w : World) (K : PySem.W.Frag) (mg : Str → Option Value) (k : Nat) (x : Str) (sp : Heap → Sp) : Prop where
  ex : ∃ f fd ps, (∀ base, FnOk P w K mg base CX0 k f fd ps (sp base)) ∧ mg x = some (.ref f) ∧ PySem.W.keepIn K (.ref f) = true ∧ Binds K fd ps []
section
variable {X : Cx} {F : Fm} {g g1 : G} {e : Expr} {es : List Expr} {pos p : Pos} {ds : List PyData} {d : PyData}
theorem eS_callF {x : Str} {sp : Heap → Sp} {j k : Nat} (C : CalF X.prog X.w X.K X.mg j x sp) (hfn : ∀ y, X.fn y = true) (hr : Room k X.A) (hk : j ≤ k) (hg : Gl X x) (hdb : (x == ("__debug__" : Str)) = false) (he : starEach (e :: es) X.env = (false, eval e X.env) :: starEach es X.env)
    (hpl : (backTo pos (starEach es X.env)).any (·.1) = false) {σ : St} {H : Hp} {Q : VK} (h : aS X (e :: es) σ H fun vs H1 => ∀ B, CellsAt X σ B → sp B vs H1 Q E0) : eS X (.Call (.Name x p) (e :: es) [] pos) σ H Q := by
  obtain ⟨f, fd, ps, G, hm, kp, b⟩ := C.ex
  intro pins s I
  refine wpAny_Call_Name_kw (ld_glob I hg hm (PySem.W.callWith_K (h₀ := X.base) I.ok.mod.kin kp (thn (h pos pins s I) fun us s1 ⟨vs, H1, I1, r, q⟩ => ⟨I1.kIn, ?_⟩) he hpl) hdb)
  obtain ⟨B, e0, kB⟩ := I1.ground
  have hsp := q B (I1.cellsAt hfn kB)
  have b2 := b s1 us I1.kIn (by rw [List.append_nil, ← r.length]; exact (G B).len _ _ _ _ hsp)
  rw [List.append_nil] at b2
  refine wpAny_call (codeAny_mono ((G B).run X.A X.stack s1 H1 ⟨us, []⟩ us vs Q E0 (hr.mono hk) e0 b2 r hsp) fun r s' hq => ?_)
  match r, hq with
  | .error e, hq => exact hq.elim
  | .ok (.ret u), hq => exact I1.after hq
  | .ok .next, hq => exact hq.elim
  | .ok .brk, hq => exact hq.elim
  | .ok .cont, hq => exact hq.elim
/-- the lambda's object, as its maker knows it -/
def IsLam (q : Str) (params : Arguments) (body : Expr) (scope : Scope) (cl : List (Str × Addr)) : V → Hp → Prop := fun v H => ∃ (f : Addr) (m : Lm), v = .ref f ∧ m.q = q ∧ m.params = params ∧ m.body = body ∧ m.scope = scope ∧ m.cl = cl ∧ DfOk H params.defaults m.dV ∧ H f = some (LamO f m) ∧ H m.c = some (CodeO m.c m.q)
theorem isLam_mono {q : Str} {params : Arguments} {body : Expr} {scope : Scope} {cl : List (Str × Addr)} : ∀ v H H', Same H H' → IsLam q params body scope cl v H → IsLam q params body scope cl v H' := fun v H H' e ⟨f, m, h1, h2, h3, h4, h5, h6, h0, h7, h8⟩ => ⟨f, m, h1, h2, h3, h4, h5, h6, dfOk_mono e h0, e _ _ h7, e _ _ h8⟩
/-- a table of code objects, ours -/
def IsTab (q : Str) : HO → Hp → Prop := fun o H => ∃ ps : Array Value, o = .tbl ps ∧ TriplesOk ps.toList ∧ ∀ p cv, codeAmong p ps.toList = some cv → ∃ c, cv = .ref c ∧ H c = some (CodeO c q)
theorem isTab_mono {q : Str} : ∀ o H H', Same H H' → IsTab q o H → IsTab q o H' := fun o H H' e ⟨ps, h1, h2, h3⟩ => ⟨ps, h1, h2, fun p cv z => let ⟨c, a, b⟩ := h3 p cv z; ⟨c, a, e _ _ b⟩⟩
abbrev tabO (q : Str) : OD := .p (IsTab q) isTab_mono
theorem ow_same {g : G} {j : Nat} {x : Addr × OD} (h : g.ow[j]? = some x) : g.ow.set j x = g.ow := by
  refine List.ext_getElem? fun i => ?_
  by_cases e : j = i
  · subst e
    rw [List.getElem?_set_self (List.getElem?_eq_some_iff.mp h).1, h]
  · rw [List.getElem?_set_ne e]
theorem lam_sat {P : Addr} {params : Arguments} {body : Expr} {scope : Scope} {j : Nat} {σ : St} {H : Hp} {Q : VK} {ps : Array Value} {pins : List (Addr × Obj)} (s : Sat X.K F g σ H) (hj : g.ow[j]? = some (P, tabO (X.env.qual ++ "<lambda>"))) (ha : ∀ p cv, codeAmong p ps.toList = some cv → ∃ c, cv = .ref c ∧ F.hd g H c = some (CodeO c (X.env.qual ++ "<lambda>")))
    (q : ∀ v H', Sat X.K F g σ H' → Same (F.hd g H) (F.hd g H') → SlOk X.K (F.hd g H') (some v) (.p (IsLam (X.env.qual ++ "<lambda>") params body scope (cloFrom X.env.cells scope.names [])) isLam_mono) → Q v H')
    (f : Addr) (m : Lm) (ps' : Array Value) (H1 : Hp) (s1 : Shared) (e1 : m.q = X.env.qual ++ "<lambda>") (e2 : m.params = params) (e3 : m.body = body) (e4 : m.scope = scope) (e5 : m.cl = cloFrom X.env.cells scope.names []) (e6 : DfOk H1 params.defaults m.dV) (I1 : Inv X pins σ H1 s1) (kp : ∀ b o, b ≠ P → H b = some o → H1 b = some o)
    (hP : H1 P = some (.tbl ps')) (ht' : TriplesOk ps'.toList) (hn : ∀ p cv, codeAmong p ps'.toList = some cv → codeAmong p ps.toList = some cv ∨ cv = .ref m.c) (fn : H f = none) (hf : H1 f = some (LamO f m)) (hc : H1 m.c = some (CodeO m.c (X.env.qual ++ "<lambda>"))) (hco : H m.c = none ∨ ∃ p, codeAmong p ps.toList = some (.ref m.c)) (hT : ∀ T, m.dV = .ref T → H T = none) :
    ∃ v H', Inv X pins σ H' s1 ∧ RelV v (.ref f) ∧ Q v H' := by
  have pd := mem_dom hj
  have nh : ∀ b, H b = none → b ∉ F.S ++ g.dom := fun b e z => s.hidIn z e
  have nhc : m.c ∉ F.S ++ g.dom := by
    rcases hco with z | ⟨p0, hp0⟩
    · exact nh _ z
    · obtain ⟨c2, a, b⟩ := ha p0 _ hp0
      cases a
      exact (hid_some b).1
  obtain ⟨s2, k2⟩ := s.put (H' := H1) (o' := .tbl ps') hj kp hP (od' := tabO (X.env.qual ++ "<lambda>")) ⟨ps', rfl, ht', fun p cv z => by
    rcases hn p cv z with z | z
    · obtain ⟨c2, a, b⟩ := ha p cv z
      obtain ⟨b1, b2⟩ := hid_some b
      exact ⟨c2, a, hid_of b1 (kp c2 _ (fun y => b1 (List.mem_append_right _ (by rw [y]; exact pd))) b2)⟩
    · exact ⟨m.c, z, hid_of nhc hc⟩⟩
  rw [ow_same hj] at s2
  refine ⟨.ref f, H1, I1, rfl, q (.ref f) H1 s2 k2 ?_⟩
  refine ⟨f, m, rfl, e1, e2, e3, e4, e5, ?_, hid_of (nh _ fn) hf, hid_of nhc (by rw [e1]; exact hc)⟩
  have lift : ∀ {ds : List Expr}, DfOk H1 ds m.dV → DfOk (F.hd g H1) ds m.dV := by
    intro ds
    match ds with
    | [] => exact id
    | [_] => exact fun ⟨T, v, a, b⟩ => ⟨T, v, a, hid_of (nh _ (hT T a)) b⟩
    | _ :: _ :: _ => exact id
  exact lift e6
theorem de_lambda {params : Arguments} {body : Expr} {scope : Scope} {c P : Addr} (j : Nat) (TB : TabB X.base X.mg c P) (hcode : X.env.code = .ref c) (L : ∀ y ∈ scope.names, y.2 = .free → X.env.scope.names.lookup y.1 = some .cell ∨ X.env.scope.names.lookup y.1 = some .free) (hj : g.ow[j]? = some (P, tabO (X.env.qual ++ "<lambda>")) := by rfl) (hd : params.defaults = [] := by rfl) (hk : params.kw_defaults = [] := by rfl) :
    DE X F g (.Lambda params body scope pos) g (.p (IsLam (X.env.qual ++ "<lambda>") params body scope (cloFrom X.env.cells scope.names [])) isLam_mono) := by
  refine ⟨rfl, fun σ H Q s q pins s' I => ?_⟩
  obtain ⟨o, ho, ps, rfl, ht, ha⟩ := s.own hj
  refine lam_make3 I TB hcode ho ht (fun p cv z => let ⟨c, a, b⟩ := ha p cv z; ⟨c, a, unhid _ _ b⟩) hd hk (fun y hy e => I.ok.has _ (L y hy e)) ?_
  exact lam_sat (ps := ps) s hj ha q
/-- .. with one default, a number that is written -/
theorem de_lambdaD {params : Arguments} {body : Expr} {scope : Scope} {c P : Addr} {i : Int} {p1 : Pos} {jj} (j : Nat) (TB : TabB X.base X.mg c P) (hcode : X.env.code = .ref c) (L : ∀ y ∈ scope.names, y.2 = .free → X.env.scope.names.lookup y.1 = some .cell ∨ X.env.scope.names.lookup y.1 = some .free) (hj : g.ow[j]? = some (P, tabO (X.env.qual ++ "<lambda>")) := by rfl) (hd : params.defaults = [.Constant (.int i) jj p1] := by rfl) (hk : params.kw_defaults = [] := by rfl) :
    DE X F g (.Lambda params body scope pos) g (.p (IsLam (X.env.qual ++ "<lambda>") params body scope (cloFrom X.env.cells scope.names [])) isLam_mono) := by
  refine ⟨rfl, fun σ H Q s q pins s' I => ?_⟩
  obtain ⟨o, ho, ps, rfl, ht, ha⟩ := s.own hj
  refine lam_makeD I TB hcode ho ht (fun p cv z => let ⟨c, a, b⟩ := ha p cv z; ⟨c, a, unhid _ _ b⟩) hd hk (fun y hy e => I.ok.has _ (L y hy e)) pe_int (fun R h => h _) ?_
  exact lam_sat (ps := ps) s hj ha q
/-- a promise over the state at a call: a lambda by what it tells, the rest data -/
theorem de_callF {x : Str} {k j kk : Nat} {is : List Nat} {ql : Str} {params : Arguments} {body : Expr} {scope : Scope} {cl : List (Str × Addr)} {R : List PyData → Out → Prop} {RR : List PyData → PyData → Prop} {cds : List PyData} (C : CalF X.prog X.w X.K X.mg j x (fun B => spV X.K (IsAct X.prog X.w X.K X.mg B kk R cds) RR)) (hfn : ∀ y, X.fn y = true) (hr : Room k X.A)
    (h1 : DE X F g e g (.p (IsLam ql params body scope cl) isLam_mono)) (ha : DAd X F g es g1 ds) (hR : RR ds d)
    (hcap : ∀ (i : Nat) (d : PyData), cds[i]? = some d → ∃ (j : Nat) (y : Str), is[i]? = some j ∧ X.N[j]? = some y ∧ g.sl[j]? = some (.d d)) (hlen : is.length = cds.length)
    (hrun : ∀ B σ vals, CellsAt X σ B → vals.length = cds.length → (∀ (i : Nat) (j : Nat) v, is[i]? = some j → vals[i]? = some v → σ[j]? = some (some v)) → LamRun X.prog X.w X.K X.mg B kk ql params body scope cl (spCap X.K vals R))
    (hk : j ≤ k := by decide) (hg : Gl X x := by rfl) (hdb : (x == ("__debug__" : Str)) = false := by decide) (he : starEach (e :: es) X.env = (false, eval e X.env) :: starEach es X.env := by rfl) (hpl : (backTo pos (starEach es X.env)).any (·.1) = false := by rfl) :
    DE X F g (.Call (.Name x p) (e :: es) [] pos) g1 (.d d) := by
  refine ⟨ha.dom, fun σ H Q s q => eS_callF C hfn hr hk hg hdb he hpl (aS_of (pa_cons pe_s pa_s he) (h1.run σ H _ s fun v H1 s1 k1 x1 => ha.run σ H1 _ s1 fun vs H2 s2 k2 x2 B hB => ?_))⟩
  obtain ⟨f, m, ev, e1, e2, e3, e4, e5, hdf, hf, hc⟩ : IsLam ql params body scope cl v (F.hd g H1) := x1
  have vex : ∀ l : List PyData, (∀ (i : Nat) (d : PyData), l[i]? = some d → ∃ (j : Nat) (y : Str), is[i]? = some j ∧ X.N[j]? = some y ∧ g.sl[j]? = some (.d d)) → ∃ vals : List V, DtAll X.K (F.hd g H2) vals l ∧ ∀ (i : Nat) (j : Nat) v, is[i]? = some j → vals[i]? = some v → σ[j]? = some (some v) := by
    have key : ∀ (l : List PyData) (is : List Nat), (∀ (i : Nat) (d : PyData), l[i]? = some d → ∃ (j : Nat) (y : Str), is[i]? = some j ∧ X.N[j]? = some y ∧ g.sl[j]? = some (.d d)) → ∃ vals : List V, DtAll X.K (F.hd g H2) vals l ∧ ∀ (i : Nat) (j : Nat) v, is[i]? = some j → vals[i]? = some v → σ[j]? = some (some v) := by
      intro l
      induction l with
      | nil => intro is _; exact ⟨[], .nil, fun i j v _ h => by simp at h⟩
      | cons d l ih =>
        intro is h
        obtain ⟨j0, y, a1, a2, a3⟩ := h 0 d rfl
        cases is with
        | nil => simp at a1
        | cons j1 is =>
          have a1 : j1 = j0 := by simpa using a1
          subst a1
          obtain ⟨vals, b1, b2⟩ := ih is fun i d hd => h (i + 1) d hd
          obtain ⟨ov, c1, c2⟩ := sat_slot s1 a3
          cases ov with
          | none => exact c2.elim
          | some v0 =>
            refine ⟨v0 :: vals, .cons (dp_mono k2 c2) b1, fun i j v hi hv => ?_⟩
            cases i with
            | zero => simp at hi hv; subst hi hv; exact c1
            | succ i => exact b2 i j v (by simpa using hi) (by simpa using hv)
    exact fun l => key l is
  obtain ⟨vals, v1, v2⟩ := vex cds hcap
  have hr' := hrun B σ vals hB (dpAll_length v1) v2
  refine ⟨F.S ++ g.dom, v, vs, ds, d, rfl, fun a mm => s2.hidIn (by rw [ha.dom]; exact mm), ⟨f, m, vals, ev, dfOk_mono k2 (by rw [e2]; exact hdf), k2 _ _ hf, k2 _ _ hc, v1, ?_⟩, x2, hR, fun u H' e' x' => q u H' (s2.grow e') (k1.trans (k2.trans (hid_same e'))) x'⟩
  rw [e1, e2, e3, e4, e5]
  exact hr'
end
section
variable {P : Program} {w : World} {K : PySem.W.Frag} {mg : Str → Option Value} {base : Heap}
theorem okV {x qual : Str} {st : Stmt} {f : Addr} {fd : FuncData} {N ps : List Str} {k : Nat} {φ : V → Hp → Prop} (m : ∀ v H H', Same H H' → φ v H → φ v H') {R : List PyData → PyData → Prop} (Fn : Fun K x qual st f fd) (S : FnScope N ps (defScope st)) (hl : ∀ ds d, R ds d → ds.length + 1 = ps.length)
    (h : ∀ f cdv A outer s H E, Room k (A.deeper (envOfC qual (defScope st) s.heap.objs.size f cdv)) → ∀ F ds d, F.M = [] → R ds d →
      DS (Xc P w K mg base N qual (defScope st) f cdv A outer s H E) F ⟨sl0 N.length (.p φ m :: ds.map .d), []⟩ (defBody st) ⟨fun _ => d = .none, fun _ r => r = .d d, fun _ => False, fun _ => False, fun _ _ _ => False⟩) :
    FnOk P w K mg base CX0 (k + 1) f fd ps (spV K φ R) := by
  refine Fn.ok S (fun vs H Q E ⟨Sx, v, ws, ds, d, e, _, _, hd, hR, _⟩ => by rw [e, List.length_cons, dpAll_length hd]; exact hl ds d hR) fun cdv A outer s H vs Q E hr ⟨Sx, v, ws, ds, d, e, hS, hv, hd, hR, q⟩ => ?_
  subst e
  refine ⟨_, pss_s, (h f cdv A outer s H E hr ⟨Sx, H, []⟩ ds d rfl hR).run _ H _ ?_ ?_⟩
  · refine ⟨start_ok (.cons ?_ ?_), fun p hp => absurd hp (by simp), List.nodup_nil, fun b o e _ => e, fun a m => absurd m (by simp), fun a m => ⟨hS a m, by simp⟩, fun a m => absurd m (by simp)⟩
    · show φ v (hid (Sx ++ []) H)
      rw [List.append_nil]
      exact hv
    · show Paired (ItOk K (hid (Sx ++ []) H)) ws (ds.map .d)
      rw [List.append_nil]
      exact paired_of_dp hd
  · refine ⟨fun g σ H' e s' => q _ _ (fun b o e' => s'.ex b o e' (by simp)) (by rw [e]; exact Dt.non), fun g r σ v H' e s' k' => ?_, fun _ _ _ h => h.elim, fun _ _ _ h => h.elim, fun _ _ _ _ _ _ h => h.elim⟩
    rw [e] at k'
    have k'' : Dt K (hid (Sx ++ g.dom) H') v d := k'
    exact q v H' (fun b o e' => s'.ex b o e' (by simp)) (dp_mono (hid_less fun a m => List.mem_append_left _ m) k'')
end
end DL
end L2
set_option Elab.async false
set_option linter.all false
set_option maxRecDepth 100000
set_option maxHeartbeats 4000000
/-! a new list inside what is given: told as a pair of it and an int, the list ours -/
namespace L2
namespace DL
open PySem PySem.Spec PyProof.Rows LamX
theorem Sat.bornO {K : PySem.W.Frag} {F : Fm} {g : G} {σ : St} {H H' : Hp} {p : Addr} {o : HO} {od : OD} (s : Sat K F g σ H) (hp : H p = none) (e : Same H H') (h : H' p = some o) (q : ODok K (hid (p :: (F.S ++ g.dom)) H') o od) :
    Sat K F ⟨g.sl, g.ow ++ [(p, od)]⟩ σ H' ∧ Same (F.hd g H) (hid (p :: (F.S ++ g.dom)) H') := by
  have hn : p ∉ F.S ++ g.dom := s.newOut hp
  have sh : Same (F.hd g H) (hid (p :: (F.S ++ g.dom)) H') := hid_mono e fun a m => by
    rcases List.mem_cons.mp m with m | m
    · exact .inr (m ▸ hp)
    · exact .inl m
  have dm : G.dom ⟨g.sl, g.ow ++ [(p, od)]⟩ = g.dom ++ [p] := by simp [G.dom]
  have e2 : F.hd ⟨g.sl, g.ow ++ [(p, od)]⟩ H' = hid (p :: (F.S ++ g.dom)) H' := by
    funext b
    show hid (F.S ++ G.dom ⟨g.sl, g.ow ++ [(p, od)]⟩) H' b = _
    unfold hid
    rw [dm]
    by_cases hb : b ∈ p :: (F.S ++ g.dom)
    · rw [if_pos hb, if_pos (by simp at hb ⊢; rcases hb with h | h | h <;> simp [h])]
    · rw [if_neg hb, if_neg (by simp at hb ⊢; exact ⟨hb.2.1, hb.2.2, hb.1⟩)]
  refine ⟨⟨?_, fun y hy => ?_, ?_, fun b o q' m => e b o (s.ex b o q' m), fun a m => ?_, s.sH, fun a m => ?_⟩, sh⟩
  · rw [e2]; exact paired_mono (fun _ _ z => slOk_mono sh z) s.sl
  · rw [e2]
    rcases List.mem_append.mp hy with hy | hy
    · obtain ⟨u, a1, a2⟩ := s.ow y hy
      exact ⟨u, e _ _ a1, odOk_mono sh a2⟩
    · rw [List.mem_singleton] at hy
      subst hy
      exact ⟨_, h, q⟩
  · rw [dm]
    exact List.nodup_append.mpr ⟨s.nd, by simp, fun a ha' b hb e => hn (List.mem_append_right _ (by rw [List.mem_singleton] at hb; rw [← hb, ← e]; exact ha'))⟩
  · rw [dm] at m
    rcases List.mem_append.mp m with m | m
    · exact s.fr a m
    · rw [List.mem_singleton] at m; exact .inl (m ▸ s.fresh0 hp)
  · cases z : H a with
    | none => exact absurd z (s.mH a m)
    | some o => rw [e a o z]; simp
theorem hd_app {F : Fm} {g : G} {p : Addr} {od : OD} (H : Hp) : F.hd ⟨g.sl, g.ow ++ [(p, od)]⟩ H = hid (p :: (F.S ++ g.dom)) H := by
  have dm : G.dom ⟨g.sl, g.ow ++ [(p, od)]⟩ = g.dom ++ [p] := by simp [G.dom]
  funext b
  show hid (F.S ++ G.dom ⟨g.sl, g.ow ++ [(p, od)]⟩) H b = _
  unfold hid
  rw [dm]
  by_cases hb : b ∈ p :: (F.S ++ g.dom)
  · rw [if_pos hb, if_pos (by simp at hb ⊢; rcases hb with h | h | h <;> simp [h])]
  · rw [if_neg hb, if_neg (by simp at hb ⊢; exact ⟨hb.2.1, hb.2.2, hb.1⟩)]
/-- a pair of the list at a and an int -/
def IsPl (K : PySem.W.Frag) (a : Addr) (n : Int) : V → Hp → Prop := fun v H => ∃ p, v = .ref p ∧ SqT K H p [.ref a, .int n]
theorem isPl_mono {K : PySem.W.Frag} {a : Addr} {n : Int} : ∀ v H H', Same H H' → IsPl K a n v H → IsPl K a n v H' := fun v H H' e ⟨p, h1, h2⟩ => ⟨p, h1, same_t e h2⟩
abbrev slPl (K : PySem.W.Frag) (a : Addr) (n : Int) : Sl := .p (IsPl K a n) isPl_mono
/-- data in, such a pair out, its list new -/
def spPl (K : PySem.W.Frag) (R : List PyData → List PyData → Int → Prop) : Sp := fun vs H Q _ => ∃ (S : List Addr) (ds : List PyData) (l : List PyData) (n : Int), (∀ a ∈ S, H a ≠ none) ∧ DtAll K (hid S H) vs ds ∧ R ds l n ∧
  ∀ v a ws H', H a = none → Same H H' → H' a = some (.lst ws) → DtAll K (hid (a :: S) H') ws l → IsPl K a n v (hid (a :: S) H') → Q v H'
section
variable {X : Cx} {F : Fm} {g g1 g2 : G} {e a b c : Expr} {es : List Expr} {pos p : Pos} {rest : List Stmt} {z : Z} {ds l : List PyData} {d : PyData} {n : Int}
/-- e gives a pair of a new list that nobody else has, and an int -/
structure DPl (X : Cx) (F : Fm) (g : G) (e : Expr) (g' : G) (l : List PyData) (n : Int) : Prop where
  dom : g'.dom = g.dom
  run : ∀ σ H (Q : VK), Sat X.K F g σ H → (∀ v p H', p ∉ F.M → p ∉ F.S ++ g.dom → F.H0 p = none → Sat X.K F ⟨g'.sl, g'.ow ++ [(p, .lst (l.map .d))]⟩ σ H' → Same (F.hd g H) (hid (p :: (F.S ++ g.dom)) H') → IsPl X.K p n v (hid (p :: (F.S ++ g.dom)) H') → Q v H') → eS X e σ H Q
theorem dpl_call {x : Str} {R : List PyData → List PyData → Int → Prop} {j k : Nat} {p : Pos} (C : CalX X j x (spPl X.K R)) (hr : Room k X.A) (ha : DAd X F g (e :: es) g1 ds) (hR : R ds l n) (hk : j ≤ k := by decide) (hg : Gl X x := by rfl)
    (hdb : (x == ("__debug__" : Str)) = false := by decide) (he : starEach (e :: es) X.env = (false, eval e X.env) :: starEach es X.env := by rfl) (hpl : (backTo pos (starEach es X.env)).any (·.1) = false := by rfl) : DPl X F g (.Call (.Name x p) (e :: es) [] pos) g1 l n := by
  refine ⟨ha.dom, fun σ H Q s q => eS_call C hr hk hg hdb he hpl (ha.run σ H _ s fun vs H1 s1 k1 x1 => ⟨F.S ++ g.dom, ds, l, n, fun a m => s1.hidIn (by rw [ha.dom]; exact m), x1, hR, fun v a ws H' ha' e' hws x' hv => ?_⟩)⟩
  obtain ⟨s2, k2⟩ := s1.bornO (od := .lst (l.map .d)) ha' e' hws ⟨ws, rfl, paired_of_dp (by rw [ha.dom]; exact x')⟩
  rw [ha.dom] at k2
  rw [hd_dom ha.dom] at k2
  exact q v a H' (s1.newM ha') (fun m => s1.newOut ha' (by rw [ha.dom]; exact m)) (s1.fresh0 ha') s2 (k1.trans k2) hv
/-- (x, e), x a list of ours -/
theorem de_tupPl {x : Expr} {a : Addr} {i} (hx : DE X F g x g (.v (.ref a))) (he : DE X F g e g1 (.d (.int n))) (h1 : starEach (x :: [e]) X.env = (false, eval x X.env) :: starEach [e] X.env := by rfl) (h2 : starEach (e :: []) X.env = (false, eval e X.env) :: starEach [] X.env := by rfl) :
    DE X F g (.Tuple [x, e] i pos) g1 (slPl X.K a n) :=
  ⟨he.dom, fun σ H Q s q => eS_of (pe_tup (pa_cons pe_s (pa_cons pe_s pa_nil h2) h1)) (hx.run σ H _ s fun v H1 s1 k1 x1 => he.run σ H1 _ s1 fun u H2 s2 k2 x2 => by
    have ev : some v = some (V.ref a) := x1
    cases ev
    have x2 : Dt X.K (F.hd g H2) u (.int n) := x2
    cases x2
    refine ⟨Nat.le_of_ble_eq_true rfl, fun p hp => ?_⟩
    have hn : p ∉ F.S ++ g.dom := fun m => s2.newOut hp (by rw [he.dom]; exact m)
    exact q _ _ (s2.newShared hp) ((k1.trans k2).trans (hid_same (same_new hp))) ⟨p, rfl, SqT.of (hid_of hn upd_same)⟩)⟩
theorem ds_retPl (he : DPl X F g e g1 l n) (k : ∀ p, p ∉ F.M → F.H0 p = none → z.rt ⟨g1.sl, g1.ow ++ [(p, .lst (l.map .d))]⟩ (slPl X.K p n)) : DS X F g (.Return (some e) pos :: rest) z := DS.mk fun σ H D s zk =>
  uS_of (pss_cons (ps_ret pe_s) pss_s) (he.run σ H _ s fun v p H' hM hn h0 s' k' hv => zk.rt _ _ σ v H' (k p hM h0) s' (by rw [hd_app, he.dom]; exact hv))
theorem ds_setPl (i : Nat) {x : Str} {p2 : Pos} (nd : X.N.Nodup) (he : DPl X F g e g1 l n) (k : ∀ p, p ∉ F.M → F.H0 p = none → DS X F ⟨g1.sl.set i (slPl X.K p n), g1.ow ++ [(p, .lst (l.map .d))]⟩ rest z) (hi : X.N[i]? = some x := by rfl) (hx : Loc X.env.scope x := by first | exact Or.inl rfl | exact Or.inr rfl)
    (hs : swapsWith e (some (.Name x p2)) pos.line X.env = pure false := by rfl) (hf : X.fn x = true ∨ X.env.scope.names.lookup x = some .local := by first | exact .inl rfl | exact .inr rfl) : DS X F g (.Assign [.Name x p2] e pos :: rest) z := DS.mk fun σ H D s zk => by
  refine uS_of (pss_cons (ps_set nd hi hx pe_s hs hf) pss_s) (he.run σ H _ s fun v p H' hM hn h0 s' k' hv => ?_)
  exact k p hM h0 _ H' D (Sat.setSl (g := ⟨g1.sl, g1.ow ++ [(p, .lst (l.map .d))]⟩) (i := i) (r := slPl X.K p n) s' (by rw [hd_app, he.dom]; exact hv)) zk
/-- x[0], x such a pair -/
theorem de_ixPl {o i : Expr} {a : Addr} (ho : DE X F g o g (slPl X.K a n)) (hi : DE X F g i g (.d (.int 0))) (hs : PlainIx i := by exact fun _ _ => rfl) : DE X F g (.Subscript o i pos) g (.v (.ref a)) := by
  refine ⟨rfl, fun σ H Q s q => eS_of (pe_ix ix_tup pe_s pe_s hs) (ho.run σ H _ s fun v H1 s1 k1 x1 => hi.run σ H1 _ s1 fun u H2 s2 k2 x2 => ?_)⟩
  obtain ⟨p, e1, e2⟩ : IsPl X.K a n v (F.hd g H1) := x1
  subst e1
  have x2 : Dt X.K (F.hd g H2) u (.int 0) := x2
  cases x2
  exact ⟨_, _, 0, .ref a, rfl, rfl, same_t unhid (same_t k2 e2), rfl, q _ H2 s2 (k1.trans k2) rfl⟩
/-- what was ours is let go -/
theorem Sat.drop {K : PySem.W.Frag} {σ : St} {H : Hp} (s : Sat K F g σ H) (j : Nat) : Sat K F ⟨g.sl, g.ow.eraseIdx j⟩ σ H := by
  have sub : ∀ x, x ∈ g.ow.eraseIdx j → x ∈ g.ow := fun x hx => (List.eraseIdx_sublist _ _).subset hx
  have up : Same (F.hd g H) (F.hd ⟨g.sl, g.ow.eraseIdx j⟩ H) := hid_less fun a m => by
    rcases List.mem_append.mp m with m | m
    · exact List.mem_append_left _ m
    · obtain ⟨x, hx, rfl⟩ := List.mem_map.mp m
      exact List.mem_append_right _ (List.mem_map.mpr ⟨x, sub x hx, rfl⟩)
  refine ⟨paired_mono (fun _ _ q => slOk_mono up q) s.sl, fun x hx => ?_, ?_, s.ex, fun a m => s.fr a ?_, s.sH, s.mH⟩
  · obtain ⟨u, u1, u2⟩ := s.ow x (sub x hx)
    exact ⟨u, u1, odOk_mono up u2⟩
  · show ((g.ow.eraseIdx j).map (·.1)).Nodup
    exact s.nd.sublist ((List.eraseIdx_sublist _ _).map _)
  · obtain ⟨x, hx, rfl⟩ := List.mem_map.mp m
    exact List.mem_map.mpr ⟨x, sub x hx, rfl⟩
theorem ds_drop (j : Nat) (k : DS X F ⟨g.sl, g.ow.eraseIdx j⟩ rest z) : DS X F g rest z := DS.mk fun σ H D s zk => k σ H D (s.drop j) zk
/-! lists of ours, and such pairs, read as data for a while -/
def BorP (K : PySem.W.Frag) (ow : List (Addr × OD)) (s s' : Sl) : Prop := Bor ow s s' ∨ ∃ (a : Addr) (n : Int) (ds : List PyData) (j : Nat), s = slPl K a n ∧ ow[j]? = some (a, OD.lst (List.map Sl.d ds)) ∧ s' = .d (.tuple [.list ds, .int n])
theorem borP_refl {K : PySem.W.Frag} {ow : List (Addr × OD)} : ∀ {sl : List Sl}, Paired (BorP K ow) sl sl
  | [] => .nil
  | _ :: _ => .cons (.inl (Or.inl rfl)) borP_refl
theorem borP_pl {K : PySem.W.Frag} {ow : List (Addr × OD)} (i j : Nat) {a : Addr} {n : Int} {ds : List PyData} : ∀ {sl sl' : List Sl}, sl[i]? = some (slPl K a n) → ow[j]? = some (a, .lst (ds.map .d)) → Paired (BorP K ow) sl sl' → Paired (BorP K ow) sl (sl'.set i (.d (.tuple [.list ds, .int n]))) := by
  intro sl sl' h1 h2 h
  induction h generalizing i with
  | nil => exact .nil
  | cons a t ih =>
    cases i with
    | zero => exact .cons (.inr ⟨_, _, ds, j, by simpa using h1, h2, rfl⟩) t
    | succ i => exact .cons a (ih i (by simpa using h1))
theorem slP_some {K : PySem.W.Frag} {H : Hp} {a : Addr} {n : Int} {o : Option V} (h : SlOk K H o (slPl K a n)) : ∃ v, o = some v ∧ IsPl K a n v H := by
  cases o with
  | none => exact (show False from h).elim
  | some v => exact ⟨v, rfl, h⟩
theorem Sat.borrowP {K : PySem.W.Frag} {σ : St} {H : Hp} (s : Sat K F g σ H) {sl' : List Sl} (hb : Paired (BorP K g.ow) g.sl sl') : Sat K ⟨F.S, H, []⟩ ⟨sl', []⟩ σ H := by
  have up : Same (F.hd g H) (hid (F.S ++ []) H) := hid_less fun a m => by
    rw [List.append_nil] at m
    exact List.mem_append_left _ m
  refine ⟨?_, fun x hx => absurd hx (by simp), List.nodup_nil, fun _ _ q' _ => q', fun a m => absurd m (by simp), fun a m => ⟨s.sIn m, by simp⟩, fun a m => absurd m (by simp)⟩
  show Paired (SlOk K (hid (F.S ++ []) H)) σ sl'
  have key : ∀ {xs : St} {sl sl' : List Sl}, Paired (SlOk K (F.hd g H)) xs sl → Paired (BorP K g.ow) sl sl' → Paired (SlOk K (hid (F.S ++ []) H)) xs sl' := by
    intro xs sl sl' h1
    induction h1 generalizing sl' with
    | nil => intro h2; cases h2; exact .nil
    | cons a t ih =>
      intro h2
      cases h2 with
      | cons b u =>
      refine .cons ?_ (ih u)
      rcases b with (b | ⟨p, ds, j, b1, b2, b3⟩) | ⟨p, n, ds, j, b1, b2, b3⟩
      · rw [b]; exact slOk_mono up a
      · rw [b1] at a
        rw [b3]
        have eo := (show _ = some (V.ref p) from a)
        subst eo
        obtain ⟨o, o1, ws, rfl, o2⟩ := s.own b2
        exact Dt.lst (hid_of (by rw [List.append_nil]; exact fun m => s.apart m (mem_dom b2)) o1) (dpAll_mono up (dp_of_paired o2))
      · rw [b1] at a
        rw [b3]
        have a := slP_some a
        obtain ⟨v, ev, q, e1, e2⟩ := a
        subst ev
        subst e1
        obtain ⟨o, o1, ws, rfl, o2⟩ := s.own b2
        exact Dt.tup (same_t up e2) (.cons (Dt.lst (hid_of (by rw [List.append_nil]; exact fun m => s.apart m (mem_dom b2)) o1) (dpAll_mono up (dp_of_paired o2))) (.cons (.int n) .nil))
  exact key s.sl hb
theorem dt_borrowP {sl' : List Sl} {k : Bool} (hb : Paired (BorP X.K g.ow) g.sl sl') (h : ∀ F', F'.M = [] → DT X F' ⟨sl', []⟩ e ⟨sl', []⟩ k) : DT X F g e g k := by
  refine ⟨rfl, fun σ H Q s q => (h ⟨F.S, H, []⟩ rfl).run σ H Q (s.borrowP hb) fun H' s' k' => ?_⟩
  have e : Same H H' := fun b o q' => s'.ex b o q' (by simp)
  exact q H' (s.grow e) (hid_same e)
end
section
variable {P : Program} {w : World} {K : PySem.W.Frag} {mg : Str → Option Value} {base : Heap}
theorem okPl {x qual : Str} {st : Stmt} {f : Addr} {fd : FuncData} {N ps : List Str} {k : Nat} {R : List PyData → List PyData → Int → Prop} (Fn : Fun K x qual st f fd) (S : FnScope N ps (defScope st)) (hl : ∀ ds l n, R ds l n → ds.length = ps.length)
    (h : ∀ f cdv A outer s H E, Room k (A.deeper (envOfC qual (defScope st) s.heap.objs.size f cdv)) → ∀ F ds l n, F.M = [] → R ds l n →
      DS (Xc P w K mg base N qual (defScope st) f cdv A outer s H E) F ⟨sl0 N.length (ds.map .d), []⟩ (defBody st) ⟨fun _ => False, fun g r => ∃ a, g.ow = [(a, .lst (l.map .d))] ∧ r = slPl K a n, fun _ => False, fun _ => False, fun _ _ _ => False⟩) :
    FnOk P w K mg base CX0 (k + 1) f fd ps (spPl K R) := by
  refine Fn.ok S (fun vs H Q E ⟨Sx, ds, l, n, _, hd, hR, _⟩ => by rw [dpAll_length hd]; exact hl ds l n hR) (fun cdv A outer s H vs Q E hr ⟨Sx, ds, l, n, hS, hd, hR, q⟩ => ?_)
  refine ⟨_, pss_s, h f cdv A outer s H E hr ⟨Sx, H, []⟩ ds l n rfl hR _ H _ ?_ ?_⟩
  · refine ⟨start_ok ?_, fun p hp => absurd hp (by simp), List.nodup_nil, fun b o e _ => e, fun a m => absurd m (by simp), fun a m => ⟨hS a m, by simp⟩, fun a m => absurd m (by simp)⟩
    have e : (⟨Sx, H, []⟩ : Fm).hd ⟨sl0 N.length (ds.map .d), []⟩ H = hid Sx H := by show hid (Sx ++ []) H = _; rw [List.append_nil]
    rw [e]
    exact paired_of_dp hd
  · refine ⟨fun g σ H' e s' => e.elim, fun g r σ v H' e s' k' => ?_, fun _ _ _ h => h.elim, fun _ _ _ h => h.elim, fun _ _ _ _ _ _ h => h.elim⟩
    obtain ⟨a, e1, e2⟩ := e
    subst e2
    obtain ⟨o, o1, ws, rfl, o2⟩ := s'.ow (a, .lst (l.map .d)) (by rw [e1]; simp)
    have ed : g.dom = [a] := by unfold G.dom; rw [e1]; rfl
    have eh : (⟨Sx, H, []⟩ : Fm).hd g H' = hid (a :: Sx) H' := by
      show hid (Sx ++ g.dom) H' = _
      rw [ed]
      funext b
      unfold hid
      by_cases hb : b ∈ a :: Sx
      · rw [if_pos hb, if_pos (by simp at hb ⊢; rcases hb with h | h <;> simp [h])]
      · rw [if_neg hb, if_neg (by simp at hb ⊢; exact ⟨hb.2, hb.1⟩)]
    rw [eh] at o2 k'
    have k' : IsPl K a n v (hid (a :: Sx) H') := k'
    refine q v a ws H' ?_ (fun b o e' => s'.ex b o e' (by simp)) o1 (dp_of_paired o2) k'
    rcases s'.fr a (by rw [ed]; simp) with h | h
    · exact h
    · exact absurd h (by simp)
end
section
variable {X : Cx}
/-- how a lambda's own names are bound in a call without arguments -/
def BindL (q : Str) (params : Arguments) (body : Expr) (scope : Scope) : Prop := ∀ {P : Program} {w : World} (cl : List (Str × Addr)) (pm cv ctv dV doc : Value) (s : Shared) (H : Hp), DfOk H params.defaults dV → HOk P w H s.heap → ∃ bs, BindsTo s (PySem.W.kdv_fn "<lambda>" q params (.expr body) scope cl dV doc pm cv ctv) ⟨[], []⟩ bs ∧ ∀ x ∈ bs, scope.names.lookup x.1 = some .local
theorem bind0 {q : Str} {body : Expr} {scope : Scope} : BindL q ⟨[], [], none, [], [], none, []⟩ body scope := fun {P w} cl pm cv ctv dV doc s H h ok => by
  have h : dV = .none := h
  subst h
  exact ⟨[], .of_eq rfl, fun x hx => absurd hx (by simp)⟩
theorem bind1 {q : Str} {body e : Expr} {scope : Scope} {a} (hl : scope.names.lookup a.arg = some .local) : BindL q ⟨[], [a], none, [], [], none, [e]⟩ body scope := fun {P w} cl pm cv ctv dV doc s H h ok => by
  obtain ⟨T, v, e1, e2⟩ : ∃ T v, dV = .ref T ∧ H T = some (DflO T v) := h
  subst e1
  exact ⟨[(a.arg, v)], .of_defaults rfl (dflO_at ok e2) rfl rfl (by simp [List.lookup]), fun x hx => by rw [List.mem_singleton] at hx; subst hx; exact hl⟩
/-- the runs of a lambda of X, for every base -/
theorem hrun_of {k : Nat} {ns : List Str} {is : List Nat} {q : Str} {params : Arguments} {body : Expr} {scope : Scope} {cds : List PyData} {R : List PyData → Out → Prop} (hl : ns.length = cds.length)
    (hb : ∀ B cl A outer s H E f c, Room k (A.deeper (lamEnv3 q scope cl s.heap.objs.size f c)) → ∀ F ds o, F.M = [] → ds.length = ns.length → R ds o → DR (lamX X.prog X.w X.K X.mg B ns q scope cl f c A outer s H E) F ⟨ds.map .d, []⟩ body ⟨ds.map .d, []⟩ o)
    (hns : ∀ (i : Nat) (x : Str), ns[i]? = some x → ∃ j : Nat, is[i]? = some j ∧ X.N[j]? = some x ∧ (x, NameKind.free) ∈ scope.names ∧ scope.names.lookup x = some .free)
    (hfree : ∀ y ∈ scope.names, y.2 = .free → X.env.kindOf y.1 = some .cell)
    (hown : ∀ y ∈ scope.names, y.2 ≠ .cell := by decide +kernel)
    (hbind : BindL q params body scope := by first | exact bind0 | exact bind1 rfl)
    (hk : scope.kind = .function := by rfl) (hco : scope.isCoroutine = false := by rfl) (hgen : scope.isGenerator = false := by rfl) :
    ∀ B σ (vals : List V), CellsAt X σ B → vals.length = cds.length → (∀ (i : Nat) (j : Nat) v, is[i]? = some j → vals[i]? = some v → σ[j]? = some (some v)) → LamRun X.prog X.w X.K X.mg B (k + 1) q params body scope (cloFrom X.env.cells scope.names []) (spCap X.K vals R) := by
  intro B σ vals hB hlen hv
  have fr : ∀ y ∈ scope.names, y.2 = .free → ∃ c, X.env.cells.lookup y.1 = some c := fun y hy e => hB.has y.1 (hfree y hy e)
  refine lamRun_of ⟨hk, hco, hgen, hown, fun x hx => ?_, fun y hy e => ?_, fun x y c h1 h2 => ?_, fun y c h => ?_, by rw [hlen, hl], fun i x v h1 h2 => ?_⟩ (hbind _) (hb B _)
  · obtain ⟨i, hi⟩ := List.mem_iff_getElem?.mp hx
    obtain ⟨j, _, _, _, e⟩ := hns i x hi
    exact e
  · obtain ⟨c, hc⟩ := fr y hy e
    exact ⟨c, NdefX.clo_has fr (y := y.1) (by rw [← e]; exact hy) hc⟩
  · exact hB.inj x y c (NdefX.clo_cm fr h1) (NdefX.clo_cm fr h2)
  · exact hB.all y c (NdefX.clo_cm fr h)
  · obtain ⟨j, a1, a2, a3, _⟩ := hns i x h1
    obtain ⟨c, u, b1, b2, b3⟩ := hB.val j x v a2 (hv i j v a1 h2) (hfree _ a3 rfl)
    exact ⟨c, u, NdefX.clo_has fr a3 b1, b2, b3⟩
end
end DL
end L2
set_option Elab.async false
set_option linter.all false
set_option maxRecDepth 100000
set_option maxHeartbeats 4000000
namespace L2
namespace DL
open PySem PySem.Spec PyProof.Rows
/-! Plain: fields, hands, places. -/
abbrev Field := Str × Int
def encF (f : Field) : PyData := .tuple [.str f.1, .int f.2]
abbrev encFs (fs : List Field) : PyData := .list (fs.map encF)
structure Hand where
  great : Bool
  align : Int
  wide : Int
  up : Bool
def sOrd (b : Bool) : Str := if b then "great" else "small"
def sWay (b : Bool) : Str := if b then "up" else "down"
abbrev encH (h : Hand) : PyData := .tuple [.str (sOrd h.great), .int h.align, .int h.wide, .str (sWay h.up)]
abbrev encI (ns : List Int) : PyData := .list (ns.map .int)
def isSize (n : Int) : Prop := n = 1 ∨ n = 2 ∨ n = 4
instance (n : Int) : Decidable (isSize n) := inferInstanceAs (Decidable (_ ∨ _ ∨ _))
def letters : Str := "abcdefghijklmnopqrstuvwxyz"
def isName (t : Str) : Bool := (decide ((1 : Int) ≤ t.length) && decide ((t.length : Int) ≤ 6)) && t.cps.toList.all fun c => decide (c ∈ letters.cps.toList)
def okField (f : Field) : Prop := isName f.1 = true ∧ isSize f.2
structure ValidFs (fs : List Field) : Prop where
  pos : 1 ≤ fs.length
  most : fs.length ≤ 6
  nd : (fs.map (·.1)).Nodup
  ok : ∀ f ∈ fs, okField f
structure ValidH (h : Hand) : Prop where
  al : isSize h.align
  wi : isSize h.wide
theorem isName_len {t : Str} (h : isName t = true) : t.length ≤ 6 := by
  unfold isName at h
  simp only [Bool.and_eq_true, decide_eq_true_eq] at h
  omega
theorem isName_short {t : Str} (h : isName t = true) : t.length ≤ sizeLine := Nat.le_trans (isName_len h) (by decide)
theorem isSize.pos {n : Int} (h : isSize n) : 1 ≤ n ∧ n ≤ 4 := by rcases h with h | h | h <;> omega
def upTo' (p s : Int) : Int := (p + s - 1) / s * s
/-- (here, the greatest step, the places) behind one field -/
def plStep (al : Int) (st : Int × Int × List Int) (fg : Field × Int) : Int × Int × List Int :=
  (upTo' (st.1 + fg.2) (min fg.1.2 al) + fg.1.2, max st.2.1 (min fg.1.2 al), st.2.2 ++ [upTo' (st.1 + fg.2) (min fg.1.2 al)])
def plRun (al : Int) (l : List (Field × Int)) : Int × Int × List Int := l.foldl (plStep al) (0, 1, [])
def placesOf (al : Int) (fs : List Field) (gaps : List Int) : List Int × Int := ((plRun al (fs.zip gaps)).2.2, upTo' (plRun al (fs.zip gaps)).1 (plRun al (fs.zip gaps)).2.1)
theorem plRun_take {al : Int} {l : List (Field × Int)} {i : Nat} {x : Field × Int} (h : l[i]? = some x) : plRun al (l.take (i + 1)) = plStep al (plRun al (l.take i)) x := by
  unfold plRun
  rw [List.take_add_one, h, List.foldl_append]
  rfl
theorem upTo'_lo {p s : Int} (hs : 1 ≤ s) : p ≤ upTo' p s := by
  unfold upTo'
  have h1 := Int.mul_ediv_add_emod (p + s - 1) s
  have h2 := Int.emod_lt_of_pos (p + s - 1) (show 0 < s by omega)
  rw [Int.mul_comm] at h1
  omega
theorem upTo'_hi {p s : Int} (hs : 1 ≤ s) : upTo' p s ≤ p + s - 1 := by
  unfold upTo'
  have h1 := Int.mul_ediv_add_emod (p + s - 1) s
  have h2 := Int.emod_nonneg (p + s - 1) (show s ≠ 0 by omega)
  rw [Int.mul_comm] at h1
  omega
theorem rev_ind {α : Type} {P : List α → Prop} (h0 : P []) (h1 : ∀ l x, P l → P (l ++ [x])) (l : List α) : P l := by
  have : ∀ l : List α, P l.reverse := fun l => by
    induction l with
    | nil => exact h0
    | cons x l ih => rw [List.reverse_cons]; exact h1 _ _ ih
  have := this l.reverse
  rw [List.reverse_reverse] at this
  exact this
/-- bounds: i fields by gaps up to m -/
theorem plRun_bound {al m : Int} (hal : isSize al) (hm : 0 ≤ m) : ∀ l : List (Field × Int), (∀ x ∈ l, isSize x.1.2 ∧ 0 ≤ x.2 ∧ x.2 ≤ m) →
    0 ≤ (plRun al l).1 ∧ (plRun al l).1 ≤ (m + 8) * l.length ∧ isSize (plRun al l).2.1 ∧ (plRun al l).2.2.length = l.length ∧ ∀ p ∈ (plRun al l).2.2, 0 ≤ p ∧ p ≤ (plRun al l).1 := by
  intro l
  induction l using rev_ind with
  | h0 => intro _; exact ⟨Int.le_refl _, by simp [plRun], .inl rfl, rfl, fun p hp => absurd hp (by simp [plRun])⟩
  | h1 l x ih =>
    intro h
    obtain ⟨h1, h2, h3, h4, h5⟩ := ih fun y hy => h y (List.mem_append_left _ hy)
    obtain ⟨x1, x2, x3⟩ := h x (by simp)
    have e : plRun al (l ++ [x]) = plStep al (plRun al l) x := by unfold plRun; rw [List.foldl_append]; rfl
    rw [e]
    have hst : isSize (min x.1.2 al) := by rcases x1 with a | a | a <;> rcases hal with b | b | b <;> rw [a, b] <;> decide
    obtain ⟨s1, s2⟩ := hst.pos
    obtain ⟨z1, z2⟩ := x1.pos
    have u1 := upTo'_lo (p := (plRun al l).1 + x.2) s1
    have u2 := upTo'_hi (p := (plRun al l).1 + x.2) s1
    have e2 : (m + 8) * ((l ++ [x]).length : Int) = (m + 8) * l.length + (m + 8) := by
      rw [List.length_append]
      show (m + 8) * (((l.length + 1 : Nat) : Int)) = _
      rw [Int.natCast_add, Int.mul_add]
      omega
    unfold plStep
    refine ⟨by omega, by rw [e2]; omega, ?_, by simp [h4], fun p hp => ?_⟩
    · show isSize (max (plRun al l).2.1 (min x.1.2 al))
      rcases h3 with a | a | a <;> rcases hst with b | b | b <;> rw [a, b] <;> decide
    · rcases List.mem_append.mp hp with hp | hp
      · obtain ⟨p1, p2⟩ := h5 p hp
        exact ⟨p1, by omega⟩
      · rw [List.mem_singleton] at hp
        omega
end DL
end L2
set_option Elab.async false
set_option linter.all false
set_option maxRecDepth 100000
set_option maxHeartbeats 4000000
namespace L2
namespace DL
open PySem PySem.Spec PyProof.Rows
/-! Plain: cells and numbers. -/
/-- a number's last n figures, the least first -/
def figs : Nat → Int → List Int
  | 0, _ => []
  | n + 1, x => x % 10 :: figs n (x / 10)
theorem figs_length : ∀ (n : Nat) (x : Int), (figs n x).length = n
  | 0, _ => rfl
  | n + 1, x => by rw [figs, List.length_cons, figs_length]
theorem figs_ok : ∀ (n : Nat) (x : Int), ∀ c ∈ figs n x, 0 ≤ c ∧ c < 10
  | 0, _, c, h => absurd h (by simp [figs])
  | n + 1, x, c, h => by
    rw [figs] at h
    rcases List.mem_cons.mp h with h | h
    · omega
    · exact figs_ok n _ c h
/-- what n turns of dividing leave -/
def tens : Nat → Int → Int
  | 0, x => x
  | n + 1, x => tens n (x / 10)
theorem tens_snoc : ∀ (n : Nat) (x : Int), tens (n + 1) x = tens n x / 10
  | 0, _ => rfl
  | n + 1, x => by
    show tens (n + 1) (x / 10) = tens n (x / 10) / 10
    exact tens_snoc n (x / 10)
theorem figs_snoc : ∀ (n : Nat) (x : Int), figs (n + 1) x = figs n x ++ [tens n x % 10]
  | 0, _ => rfl
  | n + 1, x => by
    show x % 10 :: figs (n + 1) (x / 10) = (x % 10 :: figs n (x / 10)) ++ [tens n (x / 10) % 10]
    rw [figs_snoc n (x / 10)]
    rfl
/-- a number's cells, as they lie -/
def cellsF (n : Int) (size : Int) (great : Bool) : List Int := if great then (figs size.toNat n).reverse else figs size.toNat n
/-- the number that cells hold, the greatest first -/
def valG (cs : List Int) : Int := cs.foldl (fun a c => a * 10 + c) 0
def numF (cs : List Int) (great : Bool) : Int := valG (if great then cs else cs.reverse)
theorem valG_snoc (cs : List Int) (c : Int) : valG (cs ++ [c]) = valG cs * 10 + c := by unfold valG; rw [List.foldl_append]; rfl
theorem valG_figs : ∀ (n : Nat) (x : Int), 0 ≤ x → x < 10 ^ n → valG (figs n x).reverse = x
  | 0, x, h0, h1 => by
    have : x = 0 := by rw [Int.pow_zero] at h1; omega
    rw [this]; rfl
  | n + 1, x, h0, h1 => by
    rw [figs, List.reverse_cons, valG_snoc]
    have h2 : x / 10 < 10 ^ n := by
      rw [Int.pow_succ] at h1
      omega
    rw [valG_figs n (x / 10) (by omega) h2]
    omega
theorem cellsF_length {n size : Int} (h : 0 ≤ size) (g : Bool) : ((cellsF n size g).length : Int) = size := by
  unfold cellsF
  split
  · rw [List.length_reverse, figs_length]; omega
  · rw [figs_length]; omega
theorem cellsF_ok {n size : Int} {g : Bool} : ∀ c ∈ cellsF n size g, 0 ≤ c ∧ c < 10 := by
  intro c h
  unfold cellsF at h
  split at h
  · exact figs_ok _ _ c (List.mem_reverse.mp h)
  · exact figs_ok _ _ c h
theorem num_cells {n size : Int} {g : Bool} (h0 : 0 ≤ n) (h1 : n < 10 ^ size.toNat) : numF (cellsF n size g) g = n := by
  unfold numF cellsF
  cases g with
  | true => exact valG_figs _ _ h0 h1
  | false => exact valG_figs _ _ h0 h1
theorem valG_bound : ∀ cs : List Int, (∀ c ∈ cs, 0 ≤ c ∧ c < 10) → 0 ≤ valG cs ∧ valG cs < 10 ^ cs.length := by
  intro cs
  induction cs using rev_ind with
  | h0 => intro _; exact ⟨Int.le_refl _, by decide⟩
  | h1 cs c ih =>
    intro h
    obtain ⟨a, b⟩ := ih fun x hx => h x (List.mem_append_left _ hx)
    obtain ⟨c1, c2⟩ := h c (by simp)
    rw [valG_snoc, List.length_append, List.length_singleton, Int.pow_succ]
    omega
theorem figs_val : ∀ cs : List Int, (∀ c ∈ cs, 0 ≤ c ∧ c < 10) → figs cs.length (valG cs) = cs.reverse := by
  intro cs
  induction cs using rev_ind with
  | h0 => intro _; rfl
  | h1 cs c ih =>
    intro h
    have ih := ih fun x hx => h x (List.mem_append_left _ hx)
    obtain ⟨c1, c2⟩ := h c (by simp)
    rw [valG_snoc, List.length_append, List.length_singleton, List.reverse_append]
    show (valG cs * 10 + c) % 10 :: figs cs.length ((valG cs * 10 + c) / 10) = c :: cs.reverse
    have e1 : (valG cs * 10 + c) % 10 = c := by omega
    have e2 : (valG cs * 10 + c) / 10 = valG cs := by omega
    rw [e1, e2, ih]
theorem cells_num {cs : List Int} {g : Bool} (h : ∀ c ∈ cs, 0 ≤ c ∧ c < 10) : cellsF (numF cs g) cs.length g = cs := by
  unfold cellsF numF
  rw [Int.toNat_natCast]
  cases g with
  | true => simp only [if_true]; rw [figs_val cs h, List.reverse_reverse]
  | false =>
    simp only [Bool.false_eq_true, if_false]
    have := figs_val cs.reverse fun c hc => h c (List.mem_reverse.mp hc)
    rw [List.length_reverse, List.reverse_reverse] at this
    exact this
/-- where a hand lays, the room -/
def laidF (al : Int) (fs : List Field) : List Int × Int := placesOf al fs (fs.map fun _ => 0)
/-- memory with cells put at p -/
def putM (mem : List Int) (p : Nat) (cs : List Int) : List Int := mem.take p ++ cs ++ mem.drop (p + cs.length)
def seenM (mem : List Int) (p n : Nat) : List Int := (mem.drop p).take n
end DL
end L2
set_option Elab.async false
set_option linter.all false
set_option maxRecDepth 100000
set_option maxHeartbeats 4000000
namespace L2
namespace DL
open PySem PySem.Spec PyProof.Rows
/-! Plain: where fields lie. -/
theorem plRun_snoc (al : Int) (l : List (Field × Int)) (x : Field × Int) : plRun al (l ++ [x]) = plStep al (plRun al l) x := by unfold plRun; rw [List.foldl_append]; rfl
/-- each field lies behind those ahead -/
theorem plRun_ends {al : Int} (hal : isSize al) : ∀ l : List (Field × Int), (∀ x ∈ l, isSize x.1.2 ∧ 0 ≤ x.2) →
    (plRun al l).2.2.length = l.length ∧ 0 ≤ (plRun al l).1 ∧ ∀ (k : Nat) (p : Int) (x : Field × Int), (plRun al l).2.2[k]? = some p → l[k]? = some x → 0 ≤ p ∧ p + x.1.2 ≤ (plRun al l).1 := by
  intro l
  induction l using rev_ind with
  | h0 => intro _; exact ⟨rfl, Int.le_refl _, fun k p x h => by simp [plRun] at h⟩
  | h1 l x ih =>
    intro h
    obtain ⟨h4, h5, h6⟩ := ih fun y hy => h y (List.mem_append_left _ hy)
    obtain ⟨x1, x2⟩ := h x (by simp)
    rw [plRun_snoc]
    have hst : isSize (min x.1.2 al) := by rcases x1 with a | a | a <;> rcases hal with b | b | b <;> rw [a, b] <;> decide
    obtain ⟨s1, s2⟩ := hst.pos
    obtain ⟨z1, z2⟩ := x1.pos
    have u1 := upTo'_lo (p := (plRun al l).1 + x.2) s1
    refine ⟨by show ((plRun al l).2.2 ++ [_]).length = _; simp [h4], by show 0 ≤ upTo' _ _ + _; omega, fun k p y hp hy => ?_⟩
    have hp : ((plRun al l).2.2 ++ [upTo' ((plRun al l).1 + x.2) (min x.1.2 al)])[k]? = some p := hp
    show 0 ≤ p ∧ p + y.1.2 ≤ upTo' ((plRun al l).1 + x.2) (min x.1.2 al) + x.1.2
    by_cases hk : k < l.length
    · rw [List.getElem?_append_left (by omega)] at hp
      rw [List.getElem?_append_left hk] at hy
      obtain ⟨a, b⟩ := h6 k p y hp hy
      omega
    · rw [List.getElem?_append_right (by omega)] at hp
      rw [List.getElem?_append_right (by omega)] at hy
      have : k = l.length := by
        have := (List.getElem?_eq_some_iff.mp hy).1
        simp at this
        omega
      subst this
      rw [h4, Nat.sub_self] at hp
      rw [Nat.sub_self] at hy
      cases hp
      cases hy
      omega
theorem plRun_bound_size {al : Int} (hal : isSize al) : ∀ (l : List (Field × Int)), (∀ x ∈ l, isSize x.1.2) → isSize (plRun al l).2.1 := by
  intro l
  induction l using rev_ind with
  | h0 => intro _; exact .inl rfl
  | h1 l x ih =>
    intro h
    have h3 := ih fun y hy => h y (List.mem_append_left _ hy)
    have x1 := h x (by simp)
    rw [plRun_snoc]
    have hst : isSize (min x.1.2 al) := by rcases x1 with a | a | a <;> rcases hal with b | b | b <;> rw [a, b] <;> decide
    show isSize (max (plRun al l).2.1 (min x.1.2 al))
    rcases h3 with a | a | a <;> rcases hst with b | b | b <;> rw [a, b] <;> decide
theorem zip_size {fs : List Field} {gs : List Int} (h : ∀ f ∈ fs, isSize f.2) (hg : ∀ g ∈ gs, 0 ≤ g) : ∀ x ∈ fs.zip gs, isSize x.1.2 ∧ 0 ≤ x.2 := fun x hx => ⟨h _ (List.of_mem_zip hx).1, hg _ (List.of_mem_zip hx).2⟩
/-- a field's place lies in the room -/
theorem placesOf_in {al : Int} {fs : List Field} {gs : List Int} (hal : isSize al) (h : ∀ f ∈ fs, isSize f.2) (hg : ∀ g ∈ gs, 0 ≤ g) (hl : gs.length = fs.length) :
    (placesOf al fs gs).1.length = fs.length ∧ ∀ (k : Nat) (f : Field), fs[k]? = some f → ∃ p : Nat, (placesOf al fs gs).1[k]? = some (p : Int) ∧ (p : Int) + f.2 ≤ (placesOf al fs gs).2 := by
  obtain ⟨a, b, c⟩ := plRun_ends hal (fs.zip gs) (zip_size h hg)
  have hz : (fs.zip gs).length = fs.length := by rw [List.length_zip]; omega
  have ha : (placesOf al fs gs).1.length = fs.length := by show (plRun al (fs.zip gs)).2.2.length = _; rw [a, hz]
  refine ⟨ha, fun k f hf => ?_⟩
  have hk : k < fs.length := (List.getElem?_eq_some_iff.mp hf).1
  have hp := List.getElem?_eq_getElem (show k < (placesOf al fs gs).1.length by omega)
  have hx : (fs.zip gs)[k]? = some (f, gs[k]) := by
    rw [List.getElem?_zip_eq_some]
    exact ⟨hf, List.getElem?_eq_getElem (by omega)⟩
  obtain ⟨p0, p1⟩ := c k _ _ hp hx
  have hs := (plRun_bound_size hal (fs.zip gs) fun y hy => (zip_size h hg y hy).1)
  have u := upTo'_lo (p := (plRun al (fs.zip gs)).1) hs.pos.1
  refine ⟨((placesOf al fs gs).1[k]'(by omega)).toNat, by rw [hp, Int.toNat_of_nonneg p0], ?_⟩
  rw [Int.toNat_of_nonneg p0]
  show _ ≤ upTo' (plRun al (fs.zip gs)).1 (plRun al (fs.zip gs)).2.1
  have p1' : (placesOf al fs gs).1[k] + f.2 ≤ (plRun al (fs.zip gs)).1 := p1
  omega
theorem laidF_in {al : Int} {fs : List Field} (hal : isSize al) (h : ∀ f ∈ fs, isSize f.2) :
    (laidF al fs).1.length = fs.length ∧ ∀ (k : Nat) (f : Field), fs[k]? = some f → ∃ p : Nat, (laidF al fs).1[k]? = some (p : Int) ∧ (p : Int) + f.2 ≤ (laidF al fs).2 :=
  placesOf_in hal h (fun g hg => by obtain ⟨_, _, rfl⟩ := List.mem_map.mp hg; exact Int.le_refl _) (by rw [List.length_map])
theorem ValidFs.size {fs : List Field} (h : ValidFs fs) : ∀ f ∈ fs, isSize f.2 := fun f hf => (h.ok f hf).2
theorem cut_drop {α : Type} (xs : List α) (i : Nat) : cutL xs (some (i : Int)) none = xs.drop i := by
  unfold cutL
  rw [HT.sIx_none, HT.sIx_nat]
  by_cases h : i ≤ xs.length
  · rw [Nat.min_eq_left h, List.take_of_length_le (by rw [List.length_drop]; omega)]
  · rw [Nat.min_eq_right (by omega), List.drop_of_length_le (Nat.le_refl _), List.drop_of_length_le (by omega), List.take_nil]
theorem cut_mid {α : Type} (xs : List α) (i n : Nat) (h : i + n ≤ xs.length) : cutL xs (some (i : Int)) (some ((i : Int) + (n : Int))) = (xs.drop i).take n := by
  unfold cutL
  rw [show ((i : Int) + (n : Int)) = ((i + n : Nat) : Int) by omega, HT.sIx_nat, HT.sIx_nat, Nat.min_eq_left (by omega), Nat.min_eq_left (by omega)]
  congr 1
  omega
end DL
end L2
set_option Elab.async false
set_option linter.all false
set_option maxRecDepth 100000
set_option maxHeartbeats 4000000
namespace L2
namespace DL
open PySem PySem.Spec PyProof.Rows
/-! Plain: what the laws draw. -/
def off1 (l : List Int) : List Int := if l.getD 1 0 = 0 ∧ 2 < l.length then (l.eraseIdx 2).set 1 (l.getD 2 0) else l
def off (l : List Int) (m : Int) : Int × List Int :=
  if 0 < (off1 l).getD 1 0 then ((off1 l).getD 1 0 % m, (off1 l).set 1 ((off1 l).getD 1 0 / m))
  else (((off1 l).getD 0 0 * 48271 + 11) % 2147483647 / 64 % m, (off1 l).set 0 (((off1 l).getD 0 0 * 48271 + 11) % 2147483647))
/-- a dice: what is drawn from -/
def Dc (l : List Int) : Prop := 2 ≤ l.length ∧ l.length ≤ 1000
theorem off1_dc {l : List Int} (h : Dc l) : Dc (off1 l) := by
  unfold off1
  obtain ⟨h1, h2⟩ := h
  split
  · rename_i c
    have : ((l.eraseIdx 2).set 1 (l.getD 2 0)).length = l.length - 1 := by rw [List.length_set, List.length_eraseIdx]; simp [c.2]
    exact ⟨by omega, by omega⟩
  · exact ⟨h1, h2⟩
theorem off_dc {l : List Int} (h : Dc l) (m : Int) : Dc (off l m).2 := by
  obtain ⟨h1, h2⟩ := off1_dc h
  unfold off
  split
  · exact ⟨by rw [List.length_set]; exact h1, by rw [List.length_set]; exact h2⟩
  · exact ⟨by rw [List.length_set]; exact h1, by rw [List.length_set]; exact h2⟩
theorem off_lo {l : List Int} {m : Int} (hm : 0 < m) : 0 ≤ (off l m).1 := by
  unfold off
  split
  · exact Int.emod_nonneg _ (by omega)
  · exact Int.emod_nonneg _ (by omega)
theorem off_hi {l : List Int} {m : Int} (hm : 0 < m) : (off l m).1 < m := by
  unfold off
  split
  · exact Int.emod_lt_of_pos _ hm
  · exact Int.emod_lt_of_pos _ hm
/-- the drawn place, as a place -/
theorem off_nat {l : List Int} {m : Nat} (hm : 0 < m) : ∃ k : Nat, (off l m).1 = (k : Int) ∧ k < m := ⟨(off l m).1.toNat, by have := off_lo (l := l) (m := m) (by omega); omega, by have := off_lo (l := l) (m := m) (by omega); have := off_hi (l := l) (m := m) (by omega); omega⟩
/-- all of a row, drawn one by one -/
def mixed {α : Type} : Nat → List Int → List α → List Int × List α
  | 0, l, _ => (l, [])
  | n + 1, l, xs => match xs[(off l xs.length).1.toNat]? with
    | none => (l, [])
    | some x => ((mixed n (off l xs.length).2 (xs.eraseIdx (off l xs.length).1.toNat)).1, x :: (mixed n (off l xs.length).2 (xs.eraseIdx (off l xs.length).1.toNat)).2)
theorem mixed_dc {α : Type} : ∀ (n : Nat) (l : List Int) (xs : List α), Dc l → Dc (mixed n l xs).1
  | 0, _, _, h => h
  | n + 1, l, xs, h => by
    unfold mixed
    split
    · exact h
    · exact mixed_dc n _ _ (off_dc h _)
theorem perm_erase {α : Type} : ∀ {xs : List α} {i : Nat} {x : α}, xs[i]? = some x → List.Perm xs (x :: xs.eraseIdx i)
  | [], _, _, h => by simp at h
  | y :: ys, 0, x, h => by
    have : y = x := by simpa using h
    subst this
    exact List.Perm.refl _
  | y :: ys, i + 1, x, h => by
    have ih := perm_erase (xs := ys) (i := i) (x := x) (by simpa using h)
    exact (List.Perm.cons y ih).trans (List.Perm.swap x y _)
theorem mixed_perm {α : Type} : ∀ (n : Nat) (l : List Int) (xs : List α), xs.length = n → List.Perm xs (mixed n l xs).2
  | 0, l, xs, h => by
    have : xs = [] := List.length_eq_zero_iff.mp h
    subst this
    exact List.Perm.refl _
  | n + 1, l, xs, h => by
    unfold mixed
    have lo := off_lo (l := l) (m := (xs.length : Int)) (by omega)
    have hi := off_hi (l := l) (m := (xs.length : Int)) (by omega)
    have hk : (off l xs.length).1.toNat < xs.length := by omega
    rw [List.getElem?_eq_getElem hk]
    refine (perm_erase (List.getElem?_eq_getElem hk)).trans (List.Perm.cons _ (mixed_perm n _ _ ?_))
    rw [List.length_eraseIdx, if_pos hk, h]
    rfl
theorem map_erase {α β : Type} (f : α → β) : ∀ (xs : List α) (i : Nat), (xs.map f).eraseIdx i = (xs.eraseIdx i).map f
  | [], _ => rfl
  | _ :: _, 0 => rfl
  | x :: xs, i + 1 => by
    show f x :: (xs.map f).eraseIdx i = f x :: (xs.eraseIdx i).map f
    rw [map_erase f xs i]
/-- drawing a row through a map -/
theorem mixed_map {α β : Type} (f : α → β) : ∀ (n : Nat) (l : List Int) (xs : List α), mixed n l (xs.map f) = ((mixed n l xs).1, (mixed n l xs).2.map f)
  | 0, _, _ => rfl
  | n + 1, l, xs => by
    unfold mixed
    rw [List.length_map, List.getElem?_map]
    cases h : xs[(off l xs.length).1.toNat]? with
    | none => rfl
    | some x =>
      have : (xs.map f).eraseIdx (off l xs.length).1.toNat = (xs.eraseIdx (off l xs.length).1.toNat).map f := by
        exact map_erase f _ _
      simp only [Option.map_some]
      rw [this, mixed_map f n]
      rfl
/-! names -/
def abc : Str := "abcdefghijklmnopqrstuvwxyz"
def turnS (t : Nat) : Str := cutS abc (some (t : Int)) none ++ cutS abc none (some (t : Int))
def sgn (s : Str) (i : Nat) : Str := ⟨#[s.cps.toList.getD i 0]⟩
def namesL (t : Nat) : List Str := let s := turnS t; [sgn s 0, sgn s 0 ++ sgn s 1, sgn s 1, sgn s 1 ++ sgn s 0, repS (sgn s 2) 6, repS (sgn s 2) 5, cutS s (some 3) (some 9)]
theorem names_ok : ∀ t < 26, ((namesL t).all fun s => isName s) = true ∧ (namesL t).Nodup ∧ (turnS t).cps.toList.length = 26 := by decide +kernel
end DL
end L2
set_option Elab.async false
set_option linter.all false
set_option maxRecDepth 100000
set_option maxHeartbeats 4000000
namespace L2
namespace DL
open PySem PySem.Spec PyProof.Rows
/-! the first place of a sort, step by step -/
theorem up_stop {s p h : Int} (hs : isSize s) (h1 : p ≤ h) (h2 : h ≤ upTo' p s) : (h % s = 0 → h = upTo' p s) ∧ (h % s ≠ 0 → h + 1 ≤ upTo' p s) := by
  unfold upTo' at *
  rcases hs with rfl | rfl | rfl <;> omega
/-! figures as text -/
theorem figs_zero : ∀ n, figs n 0 = List.replicate n 0
  | 0 => rfl
  | n + 1 => by rw [figs, List.replicate_succ]; simp [figs_zero n]
theorem digit_nat : ∀ d : Nat, d < 10 → (Nat.digitChar d).toNat = 48 + d := by decide
def figT (d : Int) : Nat := 48 + d.toNat
theorem pad_digits : ∀ (k m : Nat), m < 10 ^ (k + 1) → (Nat.toDigits 10 m).length ≤ k + 1 ∧ List.replicate (k + 1 - (Nat.toDigits 10 m).length) 48 ++ (Nat.toDigits 10 m).map Char.toNat = (figs (k + 1) (m : Int)).reverse.map figT
  | 0, m, h => by
    have h : m < 10 := by omega
    rw [Nat.toDigits_of_lt_base h]
    refine ⟨Nat.le_refl _, ?_⟩
    have e : ((m : Int) % 10) = m := by omega
    simp [figs, digit_nat m h, figT, e]
  | k + 1, m, h => by
    have e : figs (k + 1 + 1) (m : Int) = ((m : Int) % 10) :: figs (k + 1) ((m / 10 : Nat) : Int) := by
      show _ :: figs (k + 1) ((m : Int) / 10) = _
      rw [show ((m : Int) / 10) = ((m / 10 : Nat) : Int) by omega]
    have hm : m % 10 < 10 := Nat.mod_lt m (by decide)
    have f1 : figT ((m : Int) % 10) = 48 + m % 10 := by unfold figT; omega
    rw [e, List.reverse_cons, List.map_append]
    obtain ⟨h1, h2⟩ := pad_digits k (m / 10) (by rw [Nat.pow_succ] at h; omega)
    by_cases h' : m < 10
    · rw [Nat.toDigits_of_lt_base h']
      have e0 : m / 10 = 0 := by omega
      refine ⟨by simp, ?_⟩
      rw [e0, show ((0 : Nat) : Int) = 0 from rfl, figs_zero, List.reverse_replicate, List.map_replicate]
      have e1 : m % 10 = m := by omega
      simp [f1, digit_nat m h', e1, figT]
      omega
    · have t : Nat.toDigits 10 (m / 10) ++ Nat.toDigits 10 (m % 10) = Nat.toDigits 10 (10 * (m / 10) + m % 10) := Nat.toDigits_append_toDigits (by decide) (by omega) hm
      rw [Nat.div_add_mod] at t
      rw [← t, Nat.toDigits_of_lt_base hm, List.length_append, List.map_append, ← List.append_assoc]
      refine ⟨by simp; omega, ?_⟩
      rw [show k + 1 + 1 - ((Nat.toDigits 10 (m / 10)).length + [Nat.digitChar (m % 10)].length) = k + 1 - (Nat.toDigits 10 (m / 10)).length by simp, h2]
      simp [f1, digit_nat _ hm]
theorem figT_reads : ∀ d : Nat, d < 10 → PySem.intText? ⟨#[48 + d]⟩ = some (d : Int) := by decide +kernel
theorem repS_one (c n : Nat) : (repS ⟨#[c]⟩ n).cps.toList = List.replicate n c := by
  unfold repS
  induction n with
  | zero => rfl
  | succ n ih => rw [List.replicate_succ, List.replicate_succ] at *; simpa using ih
/-- the text of a number, zeros ahead -/
def padT (n size : Int) : Str := repS "0" (size - ((PySem.Str.ofString (toString n)).length : Int)).toNat ++ PySem.Str.ofString (toString n)
theorem padT_signs {n size : Int} (hs : isSize size) (h0 : 0 ≤ n) (h1 : n < 10 ^ size.toNat) : (padT n size).cps.toList = (figs size.toNat n).reverse.map figT ∧ (PySem.Str.ofString (toString n)).length ≤ 4 ∧ n.natAbs.log2 < 1920 := by
  obtain ⟨m, rfl⟩ := Int.eq_ofNat_of_zero_le h0
  obtain ⟨k, hk⟩ : ∃ k, size.toNat = k + 1 := ⟨size.toNat - 1, by rcases hs with rfl | rfl | rfl <;> rfl⟩
  have hk4 : k ≤ 3 := by rcases hs with rfl | rfl | rfl <;> (simp at hk; omega)
  rw [hk] at h1 ⊢
  have h1 : m < 10 ^ (k + 1) := by exact_mod_cast h1
  obtain ⟨p1, p2⟩ := pad_digits k m h1
  have e := PySem.W.KIN.signs_num m
  have el : (PySem.Str.ofString (toString ((m : Nat) : Int))).length = (Nat.toDigits 10 m).length := by
    show (PySem.Str.ofString (toString ((m : Nat) : Int))).cps.size = _
    rw [← Array.length_toList, e, List.length_map]
  refine ⟨?_, by rw [el]; omega, ?_⟩
  · unfold padT
    show (_ ++ _ : Array Nat).toList = _
    rw [Array.toList_append, e, ← p2]
    have hz : size = ((k + 1 : Nat) : Int) := by omega
    rw [el, hz, show (((k + 1 : Nat) : Int) - ((Nat.toDigits 10 m).length : Int)).toNat = k + 1 - (Nat.toDigits 10 m).length by omega]
    have := repS_one 48 (k + 1 - (Nat.toDigits 10 m).length)
    exact congrArg (· ++ _) this
  · rw [Int.natAbs_natCast]
    have hm : m < 10 ^ 4 := Nat.lt_of_lt_of_le h1 (Nat.pow_le_pow_right (by decide) (by omega))
    by_cases z : m = 0
    · subst z; decide
    · rw [Nat.log2_lt z]
      exact Nat.lt_of_lt_of_le hm (by decide +kernel)
/-! a drawn memory -/
def memF (often : Int) : Nat → List Int → List Int × List Int
  | 0, l => (l, [])
  | n + 1, l =>
    let r := memF often n l
    ((off (off r.1 10).2 often).2, r.2 ++ [(off r.1 10).1 * (if decide ((off (off r.1 10).2 often).1 = 0) then 1 else 0)])
theorem memF_dc {o : Int} {l : List Int} (h : Dc l) : ∀ n, Dc (memF o n l).1
  | 0 => h
  | n + 1 => off_dc (off_dc (memF_dc h n) _) _
theorem memF_len {o : Int} {l : List Int} : ∀ n, (memF o n l).2.length = n
  | 0 => rfl
  | n + 1 => by show ((memF o n l).2 ++ [_]).length = _; rw [List.length_append, memF_len n]; rfl
def digits' (m : List Int) : Prop := ∀ c ∈ m, 0 ≤ c ∧ c < 10
theorem memF_dig {o : Int} {l : List Int} : ∀ n, digits' (memF o n l).2
  | 0, c, h => absurd h (by simp [memF])
  | n + 1, c, h => by
    rcases List.mem_append.mp (show c ∈ (memF o n l).2 ++ [_] from h) with h | h
    · exact memF_dig n c h
    · have := List.mem_singleton.mp h
      subst this
      have a := off_lo (l := (memF o n l).1) (m := 10) (by decide)
      have b := off_hi (l := (memF o n l).1) (m := 10) (by decide)
      split
      · rw [Int.mul_one]; exact ⟨a, b⟩
      · rw [Int.mul_zero]; exact ⟨by decide, by decide⟩
def memoryF (l : List Int) (n : Nat) : List Int × List Int := memF (if (off l 2).1 = 0 then 1 else 3) n (off l 2).2
end DL
end L2
set_option Elab.async false
set_option linter.all false
set_option maxRecDepth 100000
set_option maxHeartbeats 4000000
namespace L2
namespace DL
namespace Pr
open PySem PySem.Spec PyProof.Rows
def digits (m : List Int) : Prop := ∀ c ∈ m, 0 ≤ c ∧ c < 10
structure LookOk (fs : List Field) (h : Hand) (m : List Int) (k : Nat) (f : Field) : Prop where
  vfs : ValidFs fs
  vh : ValidH h
  room : (laidF h.align fs).2 = m.length
  dig : digits m
  at_ : fs[k]? = some f
def lookF (h : Hand) (fs : List Field) (m : List Int) (k : Nat) (f : Field) : Int := numF (seenM m ((laidF h.align fs).1.getD k 0).toNat f.2.toNat) h.great
theorem LookOk.place {fs : List Field} {h : Hand} {m : List Int} {k : Nat} {f : Field} (o : LookOk fs h m k f) : ∃ p n : Nat, (laidF h.align fs).1[k]? = some (p : Int) ∧ ((laidF h.align fs).1.getD k 0).toNat = p ∧ f.2 = (n : Int) ∧ p + n ≤ m.length := by
  obtain ⟨p, h1, h2⟩ := (laidF_in o.vh.al o.vfs.size).2 k f o.at_
  have hs := (o.vfs.size f (List.mem_of_getElem? o.at_)).pos
  refine ⟨p, f.2.toNat, h1, ?_, by omega, ?_⟩
  · rw [List.getD_eq_getElem?_getD, h1]
    simp
  · rw [o.room] at h2
    omega
def putF' (h : Hand) (fs : List Field) (m : List Int) (k : Nat) (f : Field) (n : Int) : List Int := putM m ((laidF h.align fs).1.getD k 0).toNat (cellsF n f.2 h.great)
theorem put_digits {m cs : List Int} {p : Nat} (h : digits m) (hc : digits cs) : digits (putM m p cs) := fun c hc' => by
  unfold putM at hc'
  rcases List.mem_append.mp hc' with z | z
  · rcases List.mem_append.mp z with z | z
    · exact h c (List.mem_of_mem_take z)
    · exact hc c z
  · exact h c (List.mem_of_mem_drop z)
theorem put_len {m cs : List Int} {p : Nat} (h : p + cs.length ≤ m.length) : (putM m p cs).length = m.length := by
  unfold putM
  simp
  omega
/-! rooms -/
theorem placesOf_room {al m : Int} {fs : List Field} {gs : List Int} (hal : isSize al) (hm : 0 ≤ m) (h : ∀ f ∈ fs, isSize f.2) (hg : ∀ g ∈ gs, 0 ≤ g ∧ g ≤ m) (hl : gs.length = fs.length) : 0 ≤ (placesOf al fs gs).2 ∧ (placesOf al fs gs).2 ≤ (m + 8) * fs.length + 3 := by
  obtain ⟨a, b, c, _⟩ := plRun_bound hal hm (fs.zip gs) fun x hx => ⟨h _ (List.of_mem_zip hx).1, hg _ (List.of_mem_zip hx).2⟩
  have hz : (fs.zip gs).length = fs.length := by rw [List.length_zip]; omega
  rw [hz] at b
  have s1 := c.pos
  have u1 := upTo'_lo (p := (plRun al (fs.zip gs)).1) s1.1
  have u2 := upTo'_hi (p := (plRun al (fs.zip gs)).1) s1.1
  show 0 ≤ upTo' _ _ ∧ upTo' _ _ ≤ _
  omega
theorem laidF_room {al : Int} {fs : List Field} (hal : isSize al) (v : ValidFs fs) : 0 ≤ (laidF al fs).2 ∧ (laidF al fs).2 ≤ 51 := by
  have := placesOf_room (m := 0) (gs := fs.map fun _ => 0) hal (by decide) v.size (fun g hg => by obtain ⟨_, _, rfl⟩ := List.mem_map.mp hg; exact ⟨Int.le_refl _, Int.le_refl _⟩) (by rw [List.length_map])
  have h6 := v.most
  show 0 ≤ (placesOf _ _ _).2 ∧ (placesOf _ _ _).2 ≤ 51
  omega
end Pr
end DL
end L2
set_option Elab.async false
set_option linter.all false
set_option maxRecDepth 100000
set_option maxHeartbeats 4000000
namespace L2
namespace DL
namespace Pr
open PySem PySem.Spec PyProof.Rows
/-! Plain: puts and looks. -/
theorem plRun_apart {al : Int} (hal : isSize al) : ∀ l : List (Field × Int), (∀ x ∈ l, isSize x.1.2 ∧ 0 ≤ x.2) → ∀ (i j : Nat) (p q : Int) (x : Field × Int), i < j → (plRun al l).2.2[i]? = some p → (plRun al l).2.2[j]? = some q → l[i]? = some x → p + x.1.2 ≤ q := by
  intro l
  induction l using rev_ind with
  | h0 => intro _ i j p q x _ h; simp [plRun] at h
  | h1 l x ih =>
    intro h i j p q y hij hp hq hy
    have hl := fun z hz => h z (List.mem_append_left _ hz)
    obtain ⟨h4, h5, h6⟩ := plRun_ends hal l hl
    obtain ⟨x1, x2⟩ := h x (by simp)
    rw [plRun_snoc] at hp hq
    have hst : isSize (min x.1.2 al) := by rcases x1 with a | a | a <;> rcases hal with b | b | b <;> rw [a, b] <;> decide
    have u1 := upTo'_lo (p := (plRun al l).1 + x.2) hst.pos.1
    have hp : ((plRun al l).2.2 ++ [upTo' ((plRun al l).1 + x.2) (min x.1.2 al)])[i]? = some p := hp
    have hq : ((plRun al l).2.2 ++ [upTo' ((plRun al l).1 + x.2) (min x.1.2 al)])[j]? = some q := hq
    have hj : j < l.length + 1 := by
      have := (List.getElem?_eq_some_iff.mp hq).1
      rw [List.length_append] at this
      simp at this
      omega
    rw [List.getElem?_append_left (by omega)] at hp
    rw [List.getElem?_append_left (by omega)] at hy
    by_cases hk : j < l.length
    · rw [List.getElem?_append_left (by omega)] at hq
      exact ih hl i j p q y hij hp hq hy
    · rw [List.getElem?_append_right (by omega), h4, show j - l.length = 0 by omega] at hq
      cases hq
      have := (h6 i p y hp hy).2
      omega
theorem laidF_apart {al : Int} {fs : List Field} (hal : isSize al) (h : ∀ f ∈ fs, isSize f.2) {i j : Nat} {p q : Int} {f : Field} (hij : i < j) (hp : (laidF al fs).1[i]? = some p) (hq : (laidF al fs).1[j]? = some q) (hf : fs[i]? = some f) : p + f.2 ≤ q := by
  have hi : i < fs.length := (List.getElem?_eq_some_iff.mp hf).1
  exact plRun_apart hal (fs.zip (fs.map fun _ => 0)) (zip_size h fun g hg => by obtain ⟨_, _, rfl⟩ := List.mem_map.mp hg; exact Int.le_refl _) i j p q (f, 0) hij hp hq (by
    rw [List.getElem?_zip_eq_some]
    exact ⟨hf, by rw [List.getElem?_map, hf]; rfl⟩)
/-! memory, cell by cell -/
theorem putM_get {m cs : List Int} {p : Nat} (h : p + cs.length ≤ m.length) (x : Nat) : (putM m p cs)[x]? = if x < p then m[x]? else if x < p + cs.length then cs[x - p]? else m[x]? := by
  unfold putM
  by_cases h1 : x < p
  · rw [if_pos h1, List.append_assoc, List.getElem?_append_left (by rw [List.length_take]; omega), List.getElem?_take_of_lt h1]
  · rw [if_neg h1, List.append_assoc, List.getElem?_append_right (by rw [List.length_take]; omega), List.length_take, Nat.min_eq_left (by omega)]
    by_cases h2 : x < p + cs.length
    · rw [if_pos h2, List.getElem?_append_left (by omega)]
    · rw [if_neg h2, List.getElem?_append_right (by omega), List.getElem?_drop]
      congr 1
      omega
theorem seenM_get {m : List Int} {q n : Nat} (y : Nat) : (seenM m q n)[y]? = if y < n then m[q + y]? else none := by
  unfold seenM
  rw [List.getElem?_take, List.getElem?_drop]
theorem seenM_len {m : List Int} {q n : Nat} (h : q + n ≤ m.length) : (seenM m q n).length = n := by
  unfold seenM
  rw [List.length_take, List.length_drop]
  omega
theorem seen_put_same {m cs : List Int} {p : Nat} (h : p + cs.length ≤ m.length) : seenM (putM m p cs) p cs.length = cs := by
  refine List.ext_getElem? fun y => ?_
  rw [seenM_get, putM_get h]
  by_cases hy : y < cs.length
  · rw [if_pos hy, if_neg (by omega), if_pos (by omega)]
    congr 1
    omega
  · rw [if_neg hy]
    exact (List.getElem?_eq_none (by omega)).symm
theorem seen_put_off {m cs : List Int} {p q n : Nat} (h : p + cs.length ≤ m.length) (ho : q + n ≤ p ∨ p + cs.length ≤ q) : seenM (putM m p cs) q n = seenM m q n := by
  refine List.ext_getElem? fun y => ?_
  rw [seenM_get, seenM_get, putM_get h]
  by_cases hy : y < n
  · rw [if_pos hy, if_pos hy]
    rcases ho with ho | ho
    · rw [if_pos (by omega)]
    · rw [if_neg (by omega), if_neg (by omega)]
  · rw [if_neg hy, if_neg hy]
theorem put_seen {m : List Int} {p n : Nat} (h : p + n ≤ m.length) : putM m p (seenM m p n) = m := by
  refine List.ext_getElem? fun x => ?_
  rw [putM_get (by rw [seenM_len h]; exact h), seenM_len h, seenM_get]
  by_cases h1 : x < p
  · rw [if_pos h1]
  · rw [if_neg h1]
    by_cases h2 : x < p + n
    · rw [if_pos h2, if_pos (by omega)]
      congr 1
      omega
    · rw [if_neg h2]
theorem put_put {m cs : List Int} {p : Nat} (h : p + cs.length ≤ m.length) : putM (putM m p cs) p cs = putM m p cs := by
  refine List.ext_getElem? fun x => ?_
  have hl : (putM m p cs).length = m.length := by unfold putM; simp; omega
  rw [putM_get (by rw [hl]; exact h)]
  by_cases h1 : x < p
  · rw [if_pos h1]
  · rw [if_neg h1]
    by_cases h2 : x < p + cs.length
    · rw [if_pos h2, putM_get h, if_neg h1, if_pos h2]
    · rw [if_neg h2]
theorem seen_digits {m : List Int} {p n : Nat} (h : digits m) : digits (seenM m p n) := fun c hc => h c (List.mem_of_mem_drop (List.mem_of_mem_take hc))
/-! fields in a memory -/
abbrev placeN (h : Hand) (fs : List Field) (k : Nat) : Nat := ((laidF h.align fs).1.getD k 0).toNat
section
variable {fs : List Field} {h : Hand} {m : List Int} {k : Nat} {f : Field}
theorem LookOk.room' (o : LookOk fs h m k f) : placeN h fs k + f.2.toNat ≤ m.length := by
  obtain ⟨p, n, p1, p2, p3, p4⟩ := o.place
  show ((laidF h.align fs).1.getD k 0).toNat + _ ≤ _
  rw [p2, p3, Int.toNat_natCast]
  exact p4
theorem LookOk.size (o : LookOk fs h m k f) : isSize f.2 := o.vfs.size f (List.mem_of_getElem? o.at_)
theorem LookOk.cells (o : LookOk fs h m k f) (n : Int) : (cellsF n f.2 h.great).length = f.2.toNat := by
  have := o.size.pos
  have := cellsF_length (n := n) (show 0 ≤ f.2 by omega) h.great
  omega
theorem LookOk.apart {k' : Nat} {f' : Field} (o : LookOk fs h m k f) (o' : LookOk fs h m k' f') (hk : k ≠ k') : placeN h fs k' + f'.2.toNat ≤ placeN h fs k ∨ placeN h fs k + f.2.toNat ≤ placeN h fs k' := by
  obtain ⟨p, n, p1, p2, p3, p4⟩ := o.place
  obtain ⟨p', n', p1', p2', p3', p4'⟩ := o'.place
  show ((laidF h.align fs).1.getD k' 0).toNat + _ ≤ ((laidF h.align fs).1.getD k 0).toNat ∨ ((laidF h.align fs).1.getD k 0).toNat + _ ≤ ((laidF h.align fs).1.getD k' 0).toNat
  rw [p2, p2', p3, p3', Int.toNat_natCast, Int.toNat_natCast]
  rcases Nat.lt_or_gt_of_ne hk with hk | hk
  · have := laidF_apart o.vh.al o.vfs.size hk p1 p1' o.at_
    omega
  · have := laidF_apart o.vh.al o.vfs.size hk p1' p1 o'.at_
    omega
theorem LookOk.put (o : LookOk fs h m k f) {k' : Nat} {f' : Field} (o' : LookOk fs h m k' f') (n : Int) : LookOk fs h (putF' h fs m k f n) k' f' := by
  refine ⟨o'.vfs, o'.vh, ?_, put_digits o.dig cellsF_ok, o'.at_⟩
  unfold putF'
  rw [put_len (by rw [o.cells]; exact o.room')]
  exact o.room
theorem LookOk.putLen (o : LookOk fs h m k f) (n : Int) : (putF' h fs m k f n).length = m.length := by
  unfold putF'
  rw [put_len (by rw [o.cells]; exact o.room')]
theorem look_bound (o : LookOk fs h m k f) : 0 ≤ lookF h fs m k f ∧ lookF h fs m k f < 10 ^ f.2.toNat := by
  unfold lookF numF
  have hd := seen_digits (p := placeN h fs k) (n := f.2.toNat) o.dig
  have hl := seenM_len o.room'
  cases h.great
  · have := valG_bound (seenM m (placeN h fs k) f.2.toNat).reverse fun c hc => hd c (List.mem_reverse.mp hc)
    rw [List.length_reverse, hl] at this
    exact this
  · have := valG_bound (seenM m (placeN h fs k) f.2.toNat) hd
    rw [hl] at this
    exact this
theorem look_put_same (o : LookOk fs h m k f) {n : Int} (h0 : 0 ≤ n) (h1 : n < 10 ^ f.2.toNat) : lookF h fs (putF' h fs m k f n) k f = n := by
  unfold lookF putF'
  have := seen_put_same (m := m) (cs := cellsF n f.2 h.great) (p := placeN h fs k) (by rw [o.cells]; exact o.room')
  rw [o.cells] at this
  rw [this]
  exact num_cells h0 h1
theorem look_put_off {k' : Nat} {f' : Field} (o : LookOk fs h m k f) (o' : LookOk fs h m k' f') (hk : k ≠ k') (n : Int) : lookF h fs (putF' h fs m k f n) k' f' = lookF h fs m k' f' := by
  unfold lookF putF'
  rw [seen_put_off (by rw [o.cells]; exact o.room') (by rw [o.cells]; exact o.apart o' hk)]
theorem put_put_same (o : LookOk fs h m k f) (n : Int) : putF' h fs (putF' h fs m k f n) k f n = putF' h fs m k f n := by
  unfold putF'
  exact put_put (by rw [o.cells]; exact o.room')
theorem cells_look (o : LookOk fs h m k f) : cellsF (lookF h fs m k f) f.2 h.great = seenM m (placeN h fs k) f.2.toNat := by
  have := cells_num (cs := seenM m (placeN h fs k) f.2.toNat) (g := h.great) (seen_digits o.dig)
  rw [seenM_len o.room', Int.toNat_of_nonneg (by have := o.size.pos; omega)] at this
  exact this
theorem put_look (o : LookOk fs h m k f) : putF' h fs m k f (lookF h fs m k f) = m := by
  unfold putF'
  rw [cells_look o]
  exact put_seen o.room'
end
/-! all fields of a memory -/
def allF (h : Hand) (fs : List Field) (m : List Int) : List Int := fs.zipIdx.map fun x => lookF h fs m x.2 x.1
theorem allF_get {h : Hand} {fs : List Field} {m : List Int} {k : Nat} {f : Field} (hf : fs[k]? = some f) : (allF h fs m)[k]? = some (lookF h fs m k f) := by
  unfold allF
  rw [List.getElem?_map, List.getElem?_zipIdx, hf]
  simp
theorem allF_len {h : Hand} {fs : List Field} {m : List Int} : (allF h fs m).length = fs.length := by simp [allF]
/-- a memory for these fields -/
structure MemOk (fs : List Field) (h : Hand) (m : List Int) : Prop where
  vfs : ValidFs fs
  vh : ValidH h
  room : (laidF h.align fs).2 = m.length
  dig : digits m
theorem MemOk.at_ {fs : List Field} {h : Hand} {m : List Int} (o : MemOk fs h m) {k : Nat} {f : Field} (hf : fs[k]? = some f) : LookOk fs h m k f := ⟨o.vfs, o.vh, o.room, o.dig, hf⟩
theorem LookOk.mem {fs : List Field} {h : Hand} {m : List Int} {k : Nat} {f : Field} (o : LookOk fs h m k f) : MemOk fs h m := ⟨o.vfs, o.vh, o.room, o.dig⟩
theorem allF_put {fs : List Field} {h : Hand} {m : List Int} {k : Nat} {f : Field} (o : LookOk fs h m k f) {n : Int} (h0 : 0 ≤ n) (h1 : n < 10 ^ f.2.toNat) : allF h fs (putF' h fs m k f n) = (allF h fs m).take k ++ [n] ++ (allF h fs m).drop (k + 1) := by
  have hk : k < fs.length := (List.getElem?_eq_some_iff.mp o.at_).1
  refine List.ext_getElem? fun j => ?_
  have e : (allF h fs m).take k ++ [n] ++ (allF h fs m).drop (k + 1) = (allF h fs m).set k n := by
    rw [List.set_eq_take_append_cons_drop, if_pos (by rw [allF_len]; exact hk)]
    simp
  rw [e, List.getElem?_set]
  by_cases hj : j < fs.length
  · have hf := List.getElem?_eq_getElem hj
    rw [allF_get hf]
    by_cases hkj : k = j
    · subst hkj
      rw [if_pos rfl, if_pos (by rw [allF_len]; exact hj)]
      have : fs[k] = f := by
        have := o.at_
        rw [hf] at this
        exact Option.some.inj this
      rw [this, look_put_same o h0 h1]
    · rw [if_neg hkj, allF_get hf, look_put_off o (o.mem.at_ hf) hkj]
  · rw [List.getElem?_eq_none (by rw [allF_len]; omega)]
    rw [if_neg (by omega), List.getElem?_eq_none (by rw [allF_len]; omega)]
/-! puts in any order -/
structure Done (fs : List Field) (h : Hand) (nums m : List Int) (ks : List Nat) (m' : List Int) : Prop where
  ok : MemOk fs h m'
  get : ∀ k ∈ ks, ∀ f, fs[k]? = some f → nums[k]? = some (lookF h fs m' k f)
  off : ∀ x, (∀ k ∈ ks, ∀ f, fs[k]? = some f → ¬ (placeN h fs k ≤ x ∧ x < placeN h fs k + f.2.toNat)) → m'[x]? = m[x]?
theorem done_nil {fs : List Field} {h : Hand} {nums m : List Int} (o : MemOk fs h m) : Done fs h nums m [] m := ⟨o, fun _ h => absurd h (by simp), fun _ _ => rfl⟩
theorem done_put {fs : List Field} {h : Hand} {nums m m' : List Int} {ks : List Nat} {k : Nat} {f : Field} {n : Int} (d : Done fs h nums m ks m') (hf : fs[k]? = some f) (hn : nums[k]? = some n) (h0 : 0 ≤ n) (h1 : n < 10 ^ f.2.toNat) : Done fs h nums m (ks ++ [k]) (putF' h fs m' k f n) := by
  have o := d.ok.at_ hf
  refine ⟨(o.put o n).mem, fun j hj f' hf' => ?_, fun x hx => ?_⟩
  · by_cases e : k = j
    · subst e
      rw [hf] at hf'
      cases hf'
      rw [look_put_same o h0 h1, hn]
    · rw [look_put_off o (d.ok.at_ hf') e]
      rcases List.mem_append.mp hj with hj | hj
      · exact d.get j hj f' hf'
      · rw [List.mem_singleton] at hj
        exact absurd hj.symm e
  · rw [← d.off x fun j hj => hx j (List.mem_append_left _ hj)]
    have := hx k (by simp) f hf
    unfold putF'
    rw [putM_get (by rw [o.cells]; exact o.room'), o.cells]
    by_cases c1 : x < placeN h fs k
    · rw [if_pos c1]
    · rw [if_neg c1, if_neg fun c2 => this ⟨by show placeN h fs k ≤ x; omega, c2⟩]
theorem done_eq {fs : List Field} {h : Hand} {nums m m1 m2 : List Int} {k1 k2 : List Nat} (d1 : Done fs h nums m k1 m1) (d2 : Done fs h nums m k2 m2) (a1 : ∀ k, k < fs.length → k ∈ k1) (a2 : ∀ k, k < fs.length → k ∈ k2) : m1 = m2 := by
  refine List.ext_getElem? fun x => ?_
  by_cases c : ∃ k f, fs[k]? = some f ∧ placeN h fs k ≤ x ∧ x < placeN h fs k + f.2.toNat
  · obtain ⟨k, f, hf, c1, c2⟩ := c
    have hk : k < fs.length := (List.getElem?_eq_some_iff.mp hf).1
    have g1 := d1.get k (a1 k hk) f hf
    have g2 := d2.get k (a2 k hk) f hf
    rw [g1] at g2
    have e := Option.some.inj g2
    have s1 := cells_look (d1.ok.at_ hf)
    have s2 := cells_look (d2.ok.at_ hf)
    rw [e, s2] at s1
    have x1 := seenM_get (m := m1) (q := placeN h fs k) (n := f.2.toNat) (x - placeN h fs k)
    have x2 := seenM_get (m := m2) (q := placeN h fs k) (n := f.2.toNat) (x - placeN h fs k)
    rw [if_pos (by omega), show placeN h fs k + (x - placeN h fs k) = x by omega] at x1 x2
    rw [← x1, ← x2, s1]
  · have no : ∀ ks : List Nat, ∀ k ∈ ks, ∀ f, fs[k]? = some f → ¬ (placeN h fs k ≤ x ∧ x < placeN h fs k + f.2.toNat) := fun ks k _ f hf z => c ⟨k, f, hf, z⟩
    rw [d1.off x (no k1), d2.off x (no k2)]
theorem done_all {fs : List Field} {h : Hand} {nums m m' : List Int} {ks : List Nat} (d : Done fs h nums m ks m') (a : ∀ k, k < fs.length → k ∈ ks) (hl : nums.length = fs.length) : allF h fs m' = nums := by
  refine List.ext_getElem? fun k => ?_
  by_cases hk : k < fs.length
  · have hf := List.getElem?_eq_getElem hk
    rw [allF_get hf, d.get k (a k hk) _ hf]
  · rw [List.getElem?_eq_none (by rw [allF_len]; omega), List.getElem?_eq_none (by omega)]
end Pr
end DL
end L2
set_option Elab.async false
set_option linter.all false
set_option maxRecDepth 100000
set_option maxHeartbeats 1000000
namespace L2
namespace DL
namespace Pr
open PySem PySem.Spec PyProof.Rows
/-! Plain: led over. -/
abbrev fld (fs : List Field) (i : Nat) : Field := fs.getD i ("", 1)
theorem fld_at {fs : List Field} {i : Nat} {f : Field} (h : fs[i]? = some f) : fld fs i = f := by
  show fs.getD i _ = f
  rw [List.getD_eq_getElem?_getD, h]
  rfl
def zerosF (fs : List Field) (h : Hand) : List Int := List.replicate (laidF h.align fs).2.toNat 0
theorem zeros_ok {fs : List Field} {h : Hand} (vf : ValidFs fs) (vh : ValidH h) : MemOk fs h (zerosF fs h) := by
  have := laidF_room vh.al vf
  refine ⟨vf, vh, by unfold zerosF; rw [List.length_replicate]; omega, fun c hc => ?_⟩
  have := (List.mem_replicate.mp hc).2
  omega
def ledS (fs : List Field) (one other : Hand) (m : List Int) : Nat → List Int
  | 0 => zerosF fs other
  | i + 1 => putF' other fs (ledS fs one other m i) i (fld fs i) (lookF one fs m i (fld fs i))
def ledF (fs : List Field) (one other : Hand) (m : List Int) : List Int := ledS fs one other m fs.length
section
variable {fs : List Field} {one other : Hand} {m : List Int}
theorem ledS_done (mo : MemOk fs one m) (vo : ValidH other) : ∀ i, i ≤ fs.length → Done fs other (allF one fs m) (zerosF fs other) (List.range i) (ledS fs one other m i)
  | 0, _ => by
    rw [List.range_zero]
    exact done_nil (zeros_ok mo.vfs vo)
  | i + 1, h => by
    have hf := List.getElem?_eq_getElem (show i < fs.length by omega)
    have e := fld_at hf
    have b := look_bound (mo.at_ hf)
    rw [List.range_succ]
    unfold ledS
    rw [e]
    exact done_put (ledS_done mo vo i (by omega)) hf (allF_get hf) b.1 b.2
theorem led_done (mo : MemOk fs one m) (vo : ValidH other) : Done fs other (allF one fs m) (zerosF fs other) (List.range fs.length) (ledF fs one other m) := ledS_done mo vo _ (Nat.le_refl _)
theorem led_look (mo : MemOk fs one m) (vo : ValidH other) {k : Nat} {f : Field} (hf : fs[k]? = some f) : lookF other fs (ledF fs one other m) k f = lookF one fs m k f := by
  have := (led_done mo vo).get k (List.mem_range.mpr (List.getElem?_eq_some_iff.mp hf).1) f hf
  rw [allF_get hf] at this
  exact (Option.some.inj this).symm
theorem led_all (mo : MemOk fs one m) (vo : ValidH other) : allF other fs (ledF fs one other m) = allF one fs m := done_all (led_done mo vo) (fun k hk => List.mem_range.mpr hk) allF_len
/-! the cells of no field -/
def inFld (fs : List Field) (h : Hand) (x k : Nat) : Bool := decide (placeN h fs k ≤ x) && decide (x < placeN h fs k + (fld fs k).2.toNat)
def freeS (fs : List Field) (h : Hand) : Nat → List Nat
  | 0 => List.range (laidF h.align fs).2.toNat
  | i + 1 => (freeS fs h i).filter fun x => !inFld fs h x i
theorem freeS_mem {h : Hand} (x : Nat) : ∀ i, x ∈ freeS fs h i ↔ x < (laidF h.align fs).2.toNat ∧ ∀ k < i, inFld fs h x k = false
  | 0 => by
    show x ∈ List.range _ ↔ _
    rw [List.mem_range]
    exact ⟨fun h => ⟨h, fun k hk => absurd hk (by omega)⟩, fun h => h.1⟩
  | i + 1 => by
    show x ∈ (freeS fs h i).filter _ ↔ _
    rw [List.mem_filter, freeS_mem x i]
    constructor
    · rintro ⟨⟨h1, h2⟩, h3⟩
      refine ⟨h1, fun k hk => ?_⟩
      by_cases e : k < i
      · exact h2 k e
      · have : k = i := by omega
        subst this
        simpa using h3
    · rintro ⟨h1, h2⟩
      exact ⟨⟨h1, fun k hk => h2 k (by omega)⟩, by simpa using h2 i (by omega)⟩
theorem freeS_len {h : Hand} : ∀ i, (freeS fs h i).length ≤ (laidF h.align fs).2.toNat
  | 0 => by show (List.range _).length ≤ _; rw [List.length_range]; exact Nat.le_refl _
  | i + 1 => Nat.le_trans (List.length_filter_le _ _) (freeS_len i)
def freeF (fs : List Field) (h : Hand) : List Nat := freeS fs h fs.length
theorem free_off {h : Hand} {x : Nat} (hx : x ∈ freeF fs h) : ∀ k f, fs[k]? = some f → ¬ (placeN h fs k ≤ x ∧ x < placeN h fs k + f.2.toNat) := fun k f hf ⟨a, b⟩ => by
  have := ((freeS_mem x fs.length).mp hx).2 k (List.getElem?_eq_some_iff.mp hf).1
  unfold inFld at this
  rw [fld_at hf, decide_eq_true a, decide_eq_true b] at this
  cases this
theorem free_in {h : Hand} {x : Nat} (h1 : x < (laidF h.align fs).2.toNat) (h2 : ∀ k f, fs[k]? = some f → ¬ (placeN h fs k ≤ x ∧ x < placeN h fs k + f.2.toNat)) : x ∈ freeF fs h := by
  refine (freeS_mem x fs.length).mpr ⟨h1, fun k hk => ?_⟩
  have hf := List.getElem?_eq_getElem hk
  have := h2 k _ hf
  unfold inFld
  rw [fld_at hf]
  by_cases a : placeN h fs k ≤ x
  · by_cases b : x < placeN h fs k + fs[k].2.toNat
    · exact absurd ⟨a, b⟩ this
    · rw [decide_eq_false b, Bool.and_false]
  · rw [decide_eq_false a, Bool.false_and]
theorem zeros_get {h : Hand} {x : Nat} (hx : x < (laidF h.align fs).2.toNat) : (zerosF fs h)[x]? = some 0 := by
  unfold zerosF
  rw [List.getElem?_replicate, if_pos hx]
theorem led_zero (mo : MemOk fs one m) (vo : ValidH other) {x : Nat} (hx : x ∈ freeF fs other) : (ledF fs one other m)[x]? = some 0 := by
  rw [(led_done mo vo).off x fun k _ f hf => free_off hx k f hf]
  exact zeros_get ((freeS_mem x fs.length).mp hx).1
/-- a memory with 0 in the cells of no field -/
def dueF (fs : List Field) (h : Hand) (m : List Int) : List Int := (List.range m.length).map fun x => m.getD x 0 * (if x ∈ freeF fs h then 0 else 1)
theorem done_due {m' : List Int} {ks : List Nat} (mo : MemOk fs one m) (d : Done fs one (allF one fs m) (zerosF fs one) ks m') (hk : ∀ k, k < fs.length → k ∈ ks) : m' = dueF fs one m := by
  have hr := mo.room
  have hr' := d.ok.room
  refine List.ext_getElem? fun x => ?_
  unfold dueF
  rw [List.getElem?_map]
  by_cases hx : x < m.length
  · have hm := List.getElem?_eq_getElem hx
    rw [List.getElem?_range hx]
    show m'[x]? = some (m.getD x 0 * _)
    rw [List.getD_eq_getElem?_getD, hm]
    by_cases c : ∃ k f, fs[k]? = some f ∧ placeN one fs k ≤ x ∧ x < placeN one fs k + f.2.toNat
    · obtain ⟨k, f, hf, c1, c2⟩ := c
      have g1 := d.get k (hk k (List.getElem?_eq_some_iff.mp hf).1) f hf
      rw [allF_get hf] at g1
      have e := Option.some.inj g1
      have s1 := cells_look (d.ok.at_ hf)
      have s2 := cells_look (mo.at_ hf)
      rw [← e, s2] at s1
      have x1 := seenM_get (m := m') (q := placeN one fs k) (n := f.2.toNat) (x - placeN one fs k)
      have x2 := seenM_get (m := m) (q := placeN one fs k) (n := f.2.toNat) (x - placeN one fs k)
      rw [if_pos (by omega), show placeN one fs k + (x - placeN one fs k) = x by omega] at x1 x2
      rw [← x1, ← s1, x2, hm, if_neg fun hfr => free_off hfr k f hf ⟨c1, c2⟩]
      simp
    · have no : ∀ k f, fs[k]? = some f → ¬ (placeN one fs k ≤ x ∧ x < placeN one fs k + f.2.toNat) := fun k f hf z => c ⟨k, f, hf, z⟩
      rw [d.off x fun k _ f hf => no k f hf, zeros_get (by omega), if_pos (free_in (by omega) no)]
      simp
  · rw [List.getElem?_eq_none (l := List.range m.length) (by rw [List.length_range]; omega)]
    exact List.getElem?_eq_none (by omega)
theorem led_back (mo : MemOk fs one m) (vo : ValidH other) : ledF fs other one (ledF fs one other m) = dueF fs one m := by
  have d := led_done (led_done mo vo).ok mo.vh
  rw [led_all mo vo] at d
  exact done_due mo d fun k hk => List.mem_range.mpr hk
theorem led_same (mo : MemOk fs one m) : ledF fs one one m = dueF fs one m := done_due mo (led_done mo mo.vh) fun k hk => List.mem_range.mpr hk
theorem led_again (mo : MemOk fs one m) (vo : ValidH other) : ledF fs one other (ledF fs other one (ledF fs one other m)) = ledF fs one other m := by
  have d1 := led_done mo vo
  have d2 := led_done (led_done d1.ok mo.vh).ok vo
  rw [led_all d1.ok mo.vh, led_all mo vo] at d2
  exact done_eq d2 d1 (fun k hk => List.mem_range.mpr hk) fun k hk => List.mem_range.mpr hk
end
theorem cut_last (xs : List PyData) (v : PyData) : cutL (xs ++ [v]) none (some (-1)) = xs := by
  unfold cutL
  rw [HT.sIx_none]
  have : HT.sIx (xs ++ [v]).length (xs ++ [v]).length (some (-1)) = xs.length := by
    unfold HT.sIx
    simp
    omega
  rw [this, List.drop_zero, Nat.sub_zero, List.take_left']
  rfl
end Pr
end DL
end L2
set_option Elab.async false
set_option linter.all false
set_option maxRecDepth 100000
set_option maxHeartbeats 1000000
namespace L2
namespace DL
namespace Pr
open PySem PySem.Spec PyProof.Rows
/-! Plain: read unlike. -/
def unitL (n j : Nat) : List Int := (List.replicate n 0).set j 1
theorem unitL_len (n j : Nat) : (unitL n j).length = n := by simp [unitL]
theorem unitL_get (n j x : Nat) : (unitL n j)[x]? = if x < n then some (if x = j then 1 else 0) else none := by
  unfold unitL
  rw [List.getElem?_set, List.length_replicate, List.getElem?_replicate]
  by_cases h : x < n
  · by_cases e : j = x
    · subst e; simp [h]
    · rw [if_neg e, if_pos h, if_pos h, if_neg fun h => e h.symm]
  · by_cases e : j = x
    · subst e; simp [h]
    · rw [if_neg e, if_neg h, if_neg h]
theorem seen_unit {R pos p n : Nat} (h : p + n ≤ R) : seenM (unitL R pos) p n = if p ≤ pos ∧ pos < p + n then unitL n (pos - p) else List.replicate n 0 := by
  refine List.ext_getElem? fun x => ?_
  rw [seenM_get, unitL_get]
  by_cases hx : x < n
  · rw [if_pos hx, if_pos (by omega)]
    by_cases c : p ≤ pos ∧ pos < p + n
    · rw [if_pos c, unitL_get, if_pos hx]
      by_cases e : x = pos - p
      · rw [if_pos (by omega), if_pos e]
      · rw [if_neg (by omega), if_neg e]
    · rw [if_neg c, List.getElem?_replicate, if_pos hx, if_neg (by omega)]
  · rw [if_neg hx]
    by_cases c : p ≤ pos ∧ pos < p + n
    · rw [if_pos c, unitL_get, if_neg hx]
    · rw [if_neg c, List.getElem?_replicate, if_neg hx]
theorem num_zero : ∀ n : Nat, n = 1 ∨ n = 2 ∨ n = 4 → ∀ g : Bool, numF (List.replicate n 0) g = 0 := by
  rintro n (rfl | rfl | rfl) g <;> cases g <;> decide
theorem num_first : ∀ n : Nat, n = 1 ∨ n = 2 ∨ n = 4 → ∀ g : Bool, numF (unitL n 0) g ≠ 0 ∧ numF (unitL n (n - 1)) g ≠ 0 := by
  rintro n (rfl | rfl | rfl) g <;> cases g <;> decide
theorem num_turn : ∀ n : Nat, n = 2 ∨ n = 4 → ∀ g : Bool, numF (unitL n 0) g ≠ numF (unitL n 0) (!g) := by
  rintro n (rfl | rfl) g <;> cases g <;> decide
theorem num_one {c : List Int} (h : c.length ≤ 1) (g g' : Bool) : numF c g = numF c g' := by
  unfold numF
  match c, h with
  | [], _ => cases g <;> cases g' <;> rfl
  | [_], _ => cases g <;> cases g' <;> rfl
section
variable {fs : List Field} {one other : Hand}
def wideF (fs : List Field) (one other : Hand) : Nat := (max (laidF one.align fs).2 (laidF other.align fs).2).toNat
def uM (fs : List Field) (one other : Hand) (k st : Nat) : List Int := unitL (wideF fs one other) (placeN one fs k + st)
def difAt (fs : List Field) (one other : Hand) (k st : Nat) : Prop := lookF one fs (uM fs one other k st) k (fld fs k) ≠ lookF other fs (uM fs one other k st) k (fld fs k)
def sameF (fs : List Field) (one other : Hand) (k : Nat) : Bool := decide ((laidF one.align fs).1.getD k 0 = (laidF other.align fs).1.getD k 0) && (decide (sOrd one.great = sOrd other.great) || decide ((fld fs k).2 = 1))
theorem sOrd_inj {a b : Bool} (h : sOrd a = sOrd b) : a = b := by
  cases a <;> cases b <;> first | rfl | (exact absurd h (by decide))
theorem same_look {k : Nat} (h : sameF fs one other k = true) (m : List Int) : lookF one fs m k (fld fs k) = lookF other fs m k (fld fs k) := by
  unfold sameF at h
  rw [Bool.and_eq_true, Bool.or_eq_true, decide_eq_true_eq, decide_eq_true_eq, decide_eq_true_eq] at h
  obtain ⟨h1, h2⟩ := h
  unfold lookF
  rw [h1]
  rcases h2 with h2 | h2
  · rw [sOrd_inj h2]
  · refine num_one ?_ _ _
    unfold seenM
    rw [List.length_take, h2]
    show min 1 _ ≤ 1
    omega
theorem same_not {k st : Nat} (h : sameF fs one other k = true) : ¬ difAt fs one other k st := fun d => d (same_look h _)
theorem not_same (vf : ValidFs fs) (vh : ValidH one) (vo : ValidH other) {k : Nat} (hk : k < fs.length) (h : sameF fs one other k = false) : ∃ st, st < (fld fs k).2.toNat ∧ difAt fs one other k st := by
  have hf := List.getElem?_eq_getElem hk
  have o1 := (zeros_ok vf vh).at_ hf
  have o2 := (zeros_ok vf vo).at_ hf
  obtain ⟨p, n, p1, p2, p3, p4⟩ := o1.place
  obtain ⟨p', n', p1', p2', p3', p4'⟩ := o2.place
  have r1 := o1.room
  have r2 := o2.room
  have hs := o1.size
  rw [← fld_at hf] at *
  have hn : n = n' := by omega
  subst hn
  have hn3 : n = 1 ∨ n = 2 ∨ n = 4 := by unfold isSize at hs; omega
  have ft : (fld fs k).2.toNat = n := by omega
  have hw : p + n ≤ wideF fs one other ∧ p' + n ≤ wideF fs one other := by unfold wideF; omega
  have q1 : placeN one fs k = p := p2
  have q2 : placeN other fs k = p' := p2'
  have look1 : ∀ st, lookF one fs (uM fs one other k st) k (fld fs k) = numF (if p ≤ p + st ∧ p + st < p + n then unitL n (p + st - p) else List.replicate n 0) one.great := fun st => by
    show numF (seenM (unitL _ (placeN one fs k + st)) (placeN one fs k) (fld fs k).2.toNat) _ = _
    rw [q1, ft, seen_unit hw.1]
  have look2 : ∀ st, lookF other fs (uM fs one other k st) k (fld fs k) = numF (if p' ≤ p + st ∧ p + st < p' + n then unitL n (p + st - p') else List.replicate n 0) other.great := fun st => by
    show numF (seenM (unitL _ (placeN one fs k + st)) (placeN other fs k) (fld fs k).2.toNat) _ = _
    rw [q1, q2, ft, seen_unit hw.2]
  rw [ft]
  unfold difAt
  rcases Nat.lt_trichotomy p p' with c | c | c
  · refine ⟨0, by omega, ?_⟩
    rw [look1, look2, if_pos ⟨by omega, by omega⟩, if_neg (by omega), num_zero n hn3]
    simpa using (num_first n hn3 one.great).1
  · subst c
    have hg : sOrd one.great ≠ sOrd other.great ∧ (fld fs k).2 ≠ 1 := by
      unfold sameF at h
      rw [show (laidF one.align fs).1.getD k 0 = (laidF other.align fs).1.getD k 0 by rw [List.getD_eq_getElem?_getD, List.getD_eq_getElem?_getD, p1, p1']] at h
      simpa using h
    have hg2 : other.great = !one.great := by
      have := hg.1
      cases ha : one.great <;> cases hb : other.great <;> first | rfl | (rw [ha, hb] at this; exact absurd rfl this)
    refine ⟨0, by omega, ?_⟩
    rw [look1, look2, if_pos ⟨by omega, by omega⟩, hg2]
    have := num_turn n (by omega) one.great
    simpa using this
  · refine ⟨n - 1, by omega, ?_⟩
    rw [look1, look2, if_pos ⟨by omega, by omega⟩, if_neg (by omega), num_zero n hn3, show p + (n - 1) - p = n - 1 by omega]
    exact (num_first n hn3 one.great).2
/-- the first step that is read unlike -/
def Fst (fs : List Field) (one other : Hand) : Option (Nat × Nat) → Prop
  | none => ∀ k, k < fs.length → ∀ st, st < (fld fs k).2.toNat → ¬ difAt fs one other k st
  | some (k, st) => k < fs.length ∧ st < (fld fs k).2.toNat ∧ difAt fs one other k st ∧ (∀ j, j < k → ∀ u, u < (fld fs j).2.toNat → ¬ difAt fs one other j u) ∧ ∀ u, u < st → ¬ difAt fs one other k u
theorem least {P : Nat → Prop} : (∃ n, P n) → ∃ n, P n ∧ ∀ m, m < n → ¬ P m := fun ⟨n, h⟩ => by
  induction n using Nat.strongRecOn with
  | _ n ih =>
    by_cases c : ∃ m, m < n ∧ P m
    · obtain ⟨m, h1, h2⟩ := c
      exact ih m h1 h2
    · exact ⟨n, h, fun m hm hp => c ⟨m, hm, hp⟩⟩
theorem fst_ex (fs : List Field) (one other : Hand) : ∃ o, Fst fs one other o := by
  by_cases c : ∃ k, k < fs.length ∧ ∃ st, st < (fld fs k).2.toNat ∧ difAt fs one other k st
  · obtain ⟨k, ⟨hk, hst⟩, hl⟩ := least c
    obtain ⟨st, ⟨h1, h2⟩, hl2⟩ := least hst
    refine ⟨some (k, st), hk, h1, h2, fun j hj u hu d => hl j hj ⟨by omega, u, hu, d⟩, fun u hu d => hl2 u hu ⟨by omega, d⟩⟩
  · exact ⟨none, fun k hk st hst d => c ⟨k, hk, st, hst, d⟩⟩
theorem fst_uniq {o : Option (Nat × Nat)} {k st : Nat} (h : Fst fs one other o) (hk : k < fs.length) (hst : st < (fld fs k).2.toNat) (d : difAt fs one other k st) (a : ∀ j, j < k → ∀ u, u < (fld fs j).2.toNat → ¬ difAt fs one other j u) (b : ∀ u, u < st → ¬ difAt fs one other k u) : o = some (k, st) := by
  cases o with
  | none => exact absurd d (h k hk st hst)
  | some x =>
    obtain ⟨k', st'⟩ := x
    obtain ⟨h1, h2, h3, h4, h5⟩ := h
    have e : k' = k := by
      rcases Nat.lt_trichotomy k' k with c | c | c
      · exact absurd h3 (a k' c st' h2)
      · exact c
      · exact absurd d (h4 k c st hst)
    subst e
    have e : st' = st := by
      rcases Nat.lt_trichotomy st' st with c | c | c
      · exact absurd h3 (b st' c)
      · exact c
      · exact absurd d (h5 st c)
    subst e
    rfl
theorem fst_none (vf : ValidFs fs) (vh : ValidH one) (vo : ValidH other) (h : Fst fs one other none) : ∀ k, k < fs.length → sameF fs one other k = true := fun k hk => by
  cases c : sameF fs one other k with
  | true => rfl
  | false =>
    obtain ⟨st, h1, h2⟩ := not_same vf vh vo hk c
    exact absurd h2 (h k hk st h1)
theorem fst_some (vf : ValidFs fs) (vh : ValidH one) (vo : ValidH other) {k st : Nat} (h : Fst fs one other (some (k, st))) : sameF fs one other k = false ∧ ∀ j, j < k → sameF fs one other j = true := by
  obtain ⟨h1, h2, h3, h4, h5⟩ := h
  refine ⟨?_, fun j hj => ?_⟩
  · cases c : sameF fs one other k with
    | false => rfl
    | true => exact absurd h3 (same_not c)
  · cases c : sameF fs one other j with
    | true => rfl
    | false =>
      obtain ⟨u, u1, u2⟩ := not_same vf vh vo (by omega) c
      exact absurd u2 (h4 j hj u u1)
theorem wide_room (vf : ValidFs fs) (vh : ValidH one) (vo : ValidH other) : wideF fs one other ≤ 51 ∧ max (laidF one.align fs).2 (laidF other.align fs).2 = (wideF fs one other : Int) := by
  have := laidF_room vh.al vf
  have := laidF_room vo.al vf
  unfold wideF
  omega
theorem place_wide (vf : ValidFs fs) (vh : ValidH one) (vo : ValidH other) {k : Nat} {f : Field} (hf : fs[k]? = some f) : ∃ p p' n : Nat, (laidF one.align fs).1[k]? = some (p : Int) ∧ (laidF other.align fs).1[k]? = some (p' : Int) ∧ placeN one fs k = p ∧ placeN other fs k = p' ∧ f.2 = (n : Int) ∧ p + n ≤ wideF fs one other ∧ p' + n ≤ wideF fs one other ∧ 1 ≤ n ∧ n ≤ 4 := by
  have o1 := (zeros_ok vf vh).at_ hf
  have o2 := (zeros_ok vf vo).at_ hf
  obtain ⟨p, n, p1, p2, p3, p4⟩ := o1.place
  obtain ⟨p', n', p1', p2', p3', p4'⟩ := o2.place
  have r1 := o1.room
  have r2 := o2.room
  have hs := o1.size.pos
  have hn : n = n' := by omega
  subst hn
  exact ⟨p, p', n, p1, p1', p2, p2', p3, by unfold wideF; omega, by unfold wideF; omega, by omega, by omega⟩
end
theorem uM_cells {fs : List Field} {one other : Hand} {k st : Nat} : ∀ c ∈ uM fs one other k st, 0 ≤ c ∧ c ≤ 9 := fun c hc => by
  obtain ⟨i, hi⟩ := List.mem_iff_getElem?.mp hc
  unfold uM at hi
  rw [unitL_get] at hi
  split at hi
  · split at hi <;> cases hi <;> decide
  · cases hi
theorem uM_len {fs : List Field} {one other : Hand} {k st : Nat} : (uM fs one other k st).length = wideF fs one other := unitL_len _ _
end Pr
end DL
end L2
set_option Elab.async false
set_option linter.all false
set_option maxRecDepth 100000
set_option maxHeartbeats 4000000
/-! plain: fields that cannot be, words that write fields -/
namespace L2
namespace DL
open PySem PySem.Spec PyProof.Rows TL
/-! ### the first bad field -/
def badAt (fs : List Field) (i : Nat) : Bool := match fs[i]? with
  | none => false
  | some f => decide (6 ≤ i) || (!isName f.1 || (decide (f.1 ∈ (fs.take i).map (·.1)) || !decide (isSize f.2)))
def firstBad (fs : List Field) : Option Nat := if fs.length = 0 then some 0 else (List.range fs.length).find? (badAt fs)
theorem firstBad_some {fs : List Field} {i : Nat} (hi : i < fs.length) (hb : badAt fs i = true) (h : ∀ j, j < i → badAt fs j = false) : firstBad fs = some i := by
  unfold firstBad
  rw [if_neg (by omega), List.find?_range_eq_some]
  exact ⟨hb, List.mem_range.mpr hi, fun j hj => by rw [h j hj]; rfl⟩
theorem firstBad_none {fs : List Field} (h0 : fs.length ≠ 0) (h : ∀ j, j < fs.length → badAt fs j = false) : firstBad fs = none := by
  unfold firstBad
  rw [if_neg h0, List.find?_eq_none]
  intro j hj
  rw [h j (List.mem_range.mp hj)]
  decide
theorem firstBad_lt {fs : List Field} {i : Nat} (h0 : fs.length ≠ 0) (h : firstBad fs = some i) : i < fs.length := by
  unfold firstBad at h
  rw [if_neg h0, List.find?_range_eq_some] at h
  exact List.mem_range.mp h.2.1
theorem valid_of {fs : List Field} (h : firstBad fs = none) : ValidFs fs := by
  have h0 : fs.length ≠ 0 := fun e => by unfold firstBad at h; rw [if_pos e] at h; cases h
  have hb : ∀ j, j < fs.length → badAt fs j = false := fun j hj => by
    unfold firstBad at h
    rw [if_neg h0, List.find?_eq_none] at h
    simpa using h j (List.mem_range.mpr hj)
  have ok : ∀ j (hj : j < fs.length), j < 6 ∧ isName fs[j].1 = true ∧ fs[j].1 ∉ (fs.take j).map (·.1) ∧ isSize fs[j].2 := fun j hj => by
    have := hb j hj
    unfold badAt at this
    rw [List.getElem?_eq_getElem hj] at this
    simp only [Bool.or_eq_false_iff, decide_eq_false_iff_not, Bool.not_eq_false', decide_eq_true_eq] at this
    exact ⟨by omega, this.2.1, this.2.2.1, this.2.2.2⟩
  refine ⟨by omega, ?_, ?_, fun f hf => ?_⟩
  · by_cases e : fs.length ≤ 6
    · exact e
    · have := (ok 6 (by omega)).1
      omega
  · refine List.pairwise_iff_getElem.mpr fun i j hi hj hij e => ?_
    rw [List.length_map] at hi hj
    have := (ok j hj).2.2.1
    refine this (List.mem_of_getElem? (i := i) ?_)
    rw [List.getElem_map, List.getElem_map] at e
    rw [List.map_take, List.getElem?_take_of_lt hij, List.getElem?_map, List.getElem?_eq_getElem hi, ← e]
    rfl
  · obtain ⟨j, hj⟩ := List.getElem_of_mem hf
    obtain ⟨hj, rfl⟩ := hj
    obtain ⟨_, a, _, b⟩ := ok j hj
    exact ⟨a, b⟩
theorem ValidFs.noBad {fs : List Field} (v : ValidFs fs) : ∀ j, badAt fs j = false := fun j => by
  unfold badAt
  cases e : fs[j]? with
  | none => rfl
  | some f =>
    obtain ⟨hj, _⟩ := List.getElem?_eq_some_iff.mp e
    obtain ⟨k1, k2⟩ := v.ok f (List.mem_of_getElem? e)
    have h6 := v.most
    simp only [Bool.or_eq_false_iff, decide_eq_false_iff_not, Bool.not_eq_false', decide_eq_true_eq]
    refine ⟨by omega, k1, fun m => ?_, k2⟩
    rw [List.map_take] at m
    obtain ⟨i, hi⟩ := List.mem_iff_getElem?.mp m
    rw [List.getElem?_take] at hi
    split at hi
    · rename_i hij
      have hj' : j < (fs.map (·.1)).length := by rw [List.length_map]; exact hj
      have hi' : i < (fs.map (·.1)).length := by omega
      refine List.pairwise_iff_getElem.mp v.nd i j hi' hj' hij ?_
      have e2 : (fs.map (·.1))[j]? = some f.1 := by rw [List.getElem?_map, e]; rfl
      rw [List.getElem?_eq_getElem hi'] at hi
      rw [List.getElem?_eq_getElem hj'] at e2
      exact (Option.some.inj hi).trans (Option.some.inj e2).symm
    · cases hi
theorem ValidFs.fb {fs : List Field} (v : ValidFs fs) : firstBad fs = none := firstBad_none (by have := v.pos; omega) fun j _ => v.noBad j
/-! ### words -/
def figsL : List Nat := [48, 49, 50, 51, 52, 53, 54, 55, 56, 57]
abbrev lettersL : List Nat := letters.cps.toList
/-- the field that a word writes, by its parts -/
def fieldOfL (ps : List (List Nat)) : Option Field := match ps with
  | [p, [c]] => if p ≠ [] ∧ (p.all fun x => decide (x ∈ lettersL)) = true ∧ c ∈ figsL then some (⟨p.toArray⟩, ((c - 48 : Nat) : Int)) else none
  | _ => none
def fieldOf (w : Str) : Option Field := fieldOfL (cuts 58 (tl w))
theorem letters_free : 58 ∉ lettersL ∧ 32 ∉ lettersL := by decide +kernel
theorem figs_free : 58 ∉ figsL := by decide
theorem cuts_free_app {s : Nat} : ∀ {p q : List Nat}, s ∉ p → cuts s (p ++ s :: q) = p :: cuts s q
  | [], q, _ => by
    show (if s = s then [] :: cuts s q else _) = _
    rw [if_pos rfl]
  | c :: p, q, h => by
    rw [List.mem_cons, not_or] at h
    show (if c = s then _ else (c :: (cuts s (p ++ s :: q)).headD []) :: (cuts s (p ++ s :: q)).tail) = _
    rw [if_neg (fun e => h.1 e.symm), cuts_free_app h.2]
    rfl
theorem cuts_whole {s : Nat} : ∀ {p : List Nat}, s ∉ p → cuts s p = [p]
  | [], _ => rfl
  | c :: p, h => by
    rw [List.mem_cons, not_or] at h
    show (if c = s then _ else (c :: (cuts s p).headD []) :: (cuts s p).tail) = _
    rw [if_neg (fun e => h.1 e.symm), cuts_whole h.2]
    rfl
theorem fieldOf_some {w : Str} {f : Field} (h : fieldOf w = some f) : ∃ p c, tl w = p ++ [58, c] ∧ p ≠ [] ∧ (∀ x ∈ p, x ∈ lettersL) ∧ c ∈ figsL ∧ f = (⟨p.toArray⟩, ((c - 48 : Nat) : Int)) := by
  unfold fieldOf fieldOfL at h
  split at h
  · rename_i ps p c e
    split at h
    · rename_i hc
      cases h
      have := cuts_join 58 (tl w)
      rw [e] at this
      refine ⟨p, c, ?_, hc.1, ?_, hc.2.2, rfl⟩
      · rw [← this]; rfl
      · have h2 := hc.2.1
        rw [List.all_eq_true] at h2
        exact fun x hx => of_decide_eq_true (h2 x hx)
    · cases h
  · cases h
theorem fieldOf_of {w : Str} {p : List Nat} {c : Nat} (e : tl w = p ++ [58, c]) (h1 : p ≠ []) (h2 : ∀ x ∈ p, x ∈ lettersL) (h3 : c ∈ figsL) : fieldOf w = some (⟨p.toArray⟩, ((c - 48 : Nat) : Int)) := by
  have n1 : 58 ∉ p := fun m => letters_free.1 (h2 58 m)
  have n2 : 58 ∉ [c] := fun m => figs_free (by rw [List.mem_singleton] at m; rw [m]; exact h3)
  unfold fieldOf
  rw [e, show p ++ [58, c] = p ++ 58 :: [c] from rfl, cuts_free_app n1, cuts_whole n2]
  show (if _ then _ else _) = _
  rw [if_pos ⟨h1, List.all_eq_true.mpr fun x hx => decide_eq_true (h2 x hx), h3⟩]
theorem figs_cases {c : Nat} (h : c ∈ figsL) : ∃ d : Nat, d < 10 ∧ c = 48 + d := by
  unfold figsL at h
  simp only [List.mem_cons, List.not_mem_nil, or_false] at h
  refine ⟨c - 48, ?_, ?_⟩ <;> omega
/-- a word that writes a field is that field's own word -/
theorem digit_text : ∀ d : Nat, d < 10 → (toString ((d : Nat) : Int) : String) = String.singleton (Nat.digitChar d) := by decide +kernel
theorem digit_signs : ∀ d : Nat, d < 10 → (PySem.Str.ofString (toString ((d : Nat) : Int) : String)).cps.toList = [48 + d] := by decide +kernel
theorem word_back {w : Str} {f : Field} (h : fieldOf w = some f) : f.1 ++ (":" : Str) ++ PySem.Str.ofString (toString f.2) = w := by
  obtain ⟨p, c, e, _, _, h3, rfl⟩ := fieldOf_some h
  obtain ⟨d, hd, rfl⟩ := figs_cases h3
  refine ext_tl ?_
  rw [tl_append, tl_append, e]
  have : (48 + d - 48 : Nat) = d := by omega
  show p ++ [58] ++ (PySem.Str.ofString (toString (((48 + d - 48 : Nat)) : Int))).cps.toList = _
  rw [this, digit_signs d hd]
  simp
/-! ### the laws' own look at a word -/
def isWordL (l : List Nat) : Bool := decide ((l.count 58 : Int) = 1) && (decide (cutL l (some (-2)) (some (-1)) = [58]) && (decide (l.getLastD 0 ∈ figsL) && (decide ((2 : Int) < l.length) && decide ((((cutL l none (some (-2))).filter fun x => decide (x ∈ lettersL)).length : Int) = (l.length : Int) - 2))))
theorem sIx_neg {n d k : Nat} : HT.sIx n d (some (-(k : Int))) = if k = 0 then 0 else n - k := by
  by_cases h : k = 0
  · subst h
    rw [if_pos rfl]
    show (if (-((0 : Nat) : Int)) < 0 then (-((0 : Nat) : Int) + (n : Int)).toNat else min (-((0 : Nat) : Int)).toNat n) = 0
    rw [if_neg (by simp)]
    simp
  · rw [if_neg h]
    show (if (-(k : Int)) < 0 then (-(k : Int) + (n : Int)).toNat else min (-(k : Int)).toNat n) = _
    rw [if_pos (by omega)]
    omega
theorem cut_m2m1 (l : List Nat) : cutL l (some (-2)) (some (-1)) = (l.drop (l.length - 2)).take (l.length - 1 - (l.length - 2)) := by
  unfold cutL
  rw [show (-2 : Int) = -((2 : Nat) : Int) from rfl, show (-1 : Int) = -((1 : Nat) : Int) from rfl, sIx_neg, sIx_neg]
  rfl
theorem cut_m2 (l : List Nat) : cutL l none (some (-2)) = l.take (l.length - 2) := by
  unfold cutL
  rw [show (-2 : Int) = -((2 : Nat) : Int) from rfl, sIx_neg, HT.sIx_none]
  simp
theorem isWord_iff (w : Str) : isWordL (tl w) = (fieldOf w).isSome := by
  rw [Bool.eq_iff_iff, Option.isSome_iff_exists]
  constructor
  · intro h
    unfold isWordL at h
    rw [cut_m2m1, cut_m2] at h
    simp only [Bool.and_eq_true, decide_eq_true_eq] at h
    obtain ⟨h1, h2, h3, h4, h5⟩ := h
    generalize hw : tl w = l at *
    have hn : 2 < l.length := by omega
    have e1 : l = l.take (l.length - 2) ++ [58, l.getLastD 0] := by
      refine List.ext_getElem? fun i => ?_
      rw [List.getElem?_append, List.length_take]
      split
      · rw [List.getElem?_take_of_lt (by omega)]
      · have h58 : l[l.length - 2]? = some 58 := by
          have := congrArg (fun z => z[0]?) h2
          simpa [List.getElem?_take, show 0 < l.length - 1 - (l.length - 2) by omega] using this
        have hl : l[l.length - 1]? = some (l.getLastD 0) := by
          rw [List.getLastD_eq_getLast?, List.getLast?_eq_getElem?]
          cases e : l[l.length - 1]? with
          | none => rw [List.getElem?_eq_none_iff] at e; omega
          | some x => rfl
        by_cases a : i = l.length - 2
        · subst a
          rw [h58]; simp
        · by_cases b : i = l.length - 1
          · subst b
            rw [hl, show l.length - 1 - min (l.length - 2) l.length = 1 by omega]
            rfl
          · rw [List.getElem?_eq_none (by omega), List.getElem?_eq_none (by simp; omega)]
    have ha : ∀ x ∈ l.take (l.length - 2), x ∈ lettersL := by
      have hle : ((l.take (l.length - 2)).filter fun x => decide (x ∈ lettersL)).length = (l.take (l.length - 2)).length := by
        rw [List.length_take]; omega
      have := List.filter_sublist (p := fun x => decide (x ∈ lettersL)) (l := l.take (l.length - 2)) |>.eq_of_length hle
      intro x hx
      rw [← this] at hx
      exact of_decide_eq_true (List.mem_filter.mp hx).2
    refine ⟨_, fieldOf_of (p := l.take (l.length - 2)) (c := l.getLastD 0) (hw.trans e1) ?_ ha h3⟩
    intro e
    have := congrArg List.length e
    rw [List.length_take] at this
    simp at this
    omega
  · rintro ⟨f, h⟩
    obtain ⟨p, c, e, h1, h2, h3, rfl⟩ := fieldOf_some h
    have n1 : 58 ∉ p := fun m => letters_free.1 (h2 58 m)
    have n2 : c ≠ 58 := fun m => figs_free (by rw [← m]; exact h3)
    have hp : 0 < p.length := List.length_pos_iff.mpr h1
    unfold isWordL
    rw [cut_m2m1, cut_m2, e]
    have hl : (p ++ [58, c]).length = p.length + 2 := by simp
    rw [hl]
    have a1 : (p ++ [58, c]).count 58 = 1 := by
      rw [List.count_append, List.count_eq_zero_of_not_mem n1]
      simp [n2]
    have a2 : ((p ++ [58, c]).drop (p.length + 2 - 2)).take (p.length + 2 - 1 - (p.length + 2 - 2)) = [58] := by
      rw [show p.length + 2 - 2 = p.length by omega, List.drop_left, show p.length + 2 - 1 - p.length = 1 by omega]
      rfl
    have a3 : (p ++ [58, c]).getLastD 0 = c := by
      rw [show p ++ [58, c] = (p ++ [58]) ++ [c] by simp, List.getLastD_concat]
    have a4 : (p ++ [58, c]).take (p.length + 2 - 2) = p := by rw [show p.length + 2 - 2 = p.length by omega, List.take_left]
    have a5 : p.filter (fun x => decide (x ∈ lettersL)) = p := List.filter_eq_self.mpr fun x hx => decide_eq_true (h2 x hx)
    rw [a1, a2, a3, a4, a5]
    simp only [Bool.and_eq_true, decide_eq_true_eq]
    exact ⟨by omega, trivial, h3, by omega, by omega⟩
end DL
end L2
set_option Elab.async false
set_option linter.all false
set_option maxRecDepth 100000
set_option maxHeartbeats 4000000
/-! lists of things that are told by properties -/
namespace L2
namespace DL
open PySem PySem.Spec PyProof.Rows LamX
/-- a list that is shared, its items by what is told of each -/
def IsLs (K : PySem.W.Frag) (rs : List Sl) : V → Hp → Prop := fun v H => ∃ (a : Addr) (xs : List V), v = .ref a ∧ H a = some (.lst xs) ∧ Paired (ItOk K H) xs rs
theorem isLs_mono {K : PySem.W.Frag} {rs : List Sl} : ∀ v H H', Same H H' → IsLs K rs v H → IsLs K rs v H' := fun v H H' e ⟨a, xs, h1, h2, h3⟩ => ⟨a, xs, h1, e _ _ h2, paired_mono (fun _ _ q => slOk_mono e q) h3⟩
abbrev slLs (K : PySem.W.Frag) (rs : List Sl) : Sl := .p (IsLs K rs) isLs_mono
structure JOkS (K : PySem.W.Frag) (J : It) (Hd : Hp) (rs : List Sl) : Prop where
  go : ∀ i H T r, Same Hd (hid T H) → (∀ a ∈ T, H a ≠ none) → rs[i]? = some r → J.go i H ∧ ∀ x H', J.yld i H x H' → Same H H' ∧ SlOk K (hid T H') (some x) r
  stop : ∀ i H T, Same Hd (hid T H) → rs.length ≤ i → J.stop i H
section
variable {X : Cx} {F : Fm} {g g1 g2 : G} {e a b c : Expr} {es : List Expr} {pos p : Pos} {rest body : List Stmt} {z : Z} {rs rs' : List Sl} {tg iter : Expr}
theorem de_lstP (h : DA X F g es g1 rs) (hz : rs.length ≤ 1000 := by exact Nat.le_of_ble_eq_true rfl) : DE X F g (.List es pos) g1 (slLs X.K rs) :=
  ⟨h.dom, fun σ H Q s q => eS_of (pe_lst pa_s) (h.run σ H _ s fun vs H1 s1 k1 x1 => ⟨by rw [paired_length x1]; exact le_line hz, fun p hp => by
    have hn : p ∉ F.S ++ g.dom := fun m => s1.newOut hp (by rw [h.dom]; exact m)
    exact q _ _ (s1.newShared hp) (k1.trans (hid_same (same_new hp))) ⟨p, vs, rfl, hid_of hn upd_same, paired_mono (fun _ _ q => slOk_mono (hid_same (same_new hp)) q) x1⟩⟩)⟩
theorem de_catP (ha : DE X F g a g1 (slLs X.K rs)) (hb : DE X F g1 b g2 (slLs X.K rs')) (hz : rs.length + rs'.length ≤ 100000) : DE X F g (.BinOp a .Add b pos) g2 (slLs X.K (rs ++ rs')) := by
  have dm := hb.dom.trans ha.dom
  refine ⟨dm, fun σ H Q s q => eS_of (pe_op op_cat pe_s pe_s) (ha.run σ H _ s fun x H1 s1 k1 x1 => hb.run σ H1 _ s1 fun y H2 s2 k2 y2 => ?_)⟩
  rw [hd_dom ha.dom, hd_dom ha.dom] at k2
  rw [hd_dom ha.dom] at y2
  obtain ⟨l, xs, e1, a1, a2⟩ := isLs_mono _ _ _ k2 (show IsLs X.K rs x (F.hd g H1) from x1)
  obtain ⟨m, ys, e2, b1, b2⟩ : IsLs X.K rs' y (F.hd g H2) := y2
  subst e1 e2
  refine ⟨_, _, _, _, rfl, rfl, unhid _ _ a1, unhid _ _ b1, by rw [paired_length a2, paired_length b2]; exact Nat.le_trans hz (by decide), fun p hp => ?_⟩
  have hn : p ∉ F.S ++ g.dom := fun m => s2.newOut hp (by rw [dm]; exact m)
  exact q _ _ (s2.newShared hp) ((k1.trans k2).trans (hid_same (same_new hp))) ⟨p, _, rfl, hid_of hn upd_same, paired_mono (fun _ _ q => slOk_mono (hid_same (same_new hp)) q) (paired_append a2 b2)⟩
/-- a list of ours, its items not all data, is shared -/
theorem ds_shareP (i j : Nat) {p : Addr} (hs : g.sl[i]? = some (.v (.ref p))) (hj : g.ow[j]? = some (p, .lst rs)) (hM : p ∉ F.M) (k : DS X F ⟨g.sl.set i (slLs X.K rs), g.ow.eraseIdx j⟩ rest z) : DS X F g rest z := DS.mk fun σ H D s zk => by
  have s2 := s.drop j
  obtain ⟨o, o1, ws, rfl, o2⟩ := s.own hj
  have pS : p ∉ F.S := fun m => s.apart m (mem_dom hj)
  have pn : p ∉ G.dom ⟨g.sl, g.ow.eraseIdx j⟩ := fun m => by
    obtain ⟨x, hx, ex⟩ := List.mem_map.mp m
    obtain ⟨i, hi⟩ := List.mem_iff_getElem?.mp hx
    rw [List.getElem?_eraseIdx] at hi
    by_cases c : i < j
    · rw [if_pos c] at hi
      have := nd_ix s.nd (i := i) (j := j) (x := p) (by show (g.ow.map (·.1))[i]? = _; rw [List.getElem?_map, hi, ← ex]; rfl) (by show (g.ow.map (·.1))[j]? = _; rw [List.getElem?_map, hj]; rfl)
      omega
    · rw [if_neg c] at hi
      have := nd_ix s.nd (i := i + 1) (j := j) (x := p) (by show (g.ow.map (·.1))[i + 1]? = _; rw [List.getElem?_map, hi, ← ex]; rfl) (by show (g.ow.map (·.1))[j]? = _; rw [List.getElem?_map, hj]; rfl)
      omega
  have up : Same (F.hd g H) (F.hd ⟨g.sl, g.ow.eraseIdx j⟩ H) := hid_less fun a m => by
    rcases List.mem_append.mp m with m | m
    · exact List.mem_append_left _ m
    · obtain ⟨x, hx, rfl⟩ := List.mem_map.mp m
      exact List.mem_append_right _ (List.mem_map.mpr ⟨x, (List.eraseIdx_sublist _ _).subset hx, rfl⟩)
  obtain ⟨o, h1, h2⟩ := sat_slot s hs
  have eo : o = some (V.ref p) := h2
  subst eo
  have x2 : IsLs X.K rs (.ref p) (F.hd ⟨g.sl, g.ow.eraseIdx j⟩ H) := ⟨p, ws, rfl, hid_of (fun m => by
    rcases List.mem_append.mp m with m | m
    · exact pS m
    · exact pn m) o1, paired_mono (fun _ _ q => slOk_mono up q) o2⟩
  have s3 := s2.setSl (i := i) (v := .ref p) (r := slLs X.K rs) x2
  have es : σ.set i (some (V.ref p)) = σ := by
    refine List.ext_getElem? fun k => ?_
    by_cases e : i = k
    · subst e; rw [List.getElem?_set_self (List.getElem?_eq_some_iff.mp h1).1, h1]
    · rw [List.getElem?_set_ne e]
  rw [es] at s3
  exact k σ H D s3 zk
structure DIS (X : Cx) (F : Fm) (g : G) (tg iter : Expr) (g' : G) (rs : List Sl) : Prop where
  dom : g'.dom = g.dom
  run : ∀ σ H (R : It → Hp → Prop), Sat X.K F g σ H → (∀ J H', Sat X.K F g' σ H' → Same (F.hd g H) (F.hd g H') → JOkS X.K J (F.hd g H') rs → R J H') → iS X tg iter σ H R
theorem dis_ls (h : DE X F g iter g1 (slLs X.K rs)) : DIS X F g tg iter g1 rs := by
  refine ⟨h.dom, fun σ H R s q => iS_of (pi_list pe_s) (h.run σ H _ s fun v H1 s1 k1 x1 => ?_)⟩
  obtain ⟨a, xs, ev, a1, a2⟩ : IsLs X.K rs v (F.hd g H1) := x1
  subst ev
  refine ⟨a, rfl, ⟨xs, SqL.of (unhid _ _ a1)⟩, q _ H1 s1 k1 ⟨fun i H2 T d e m hi => ?_, fun i H2 T e hi => ⟨xs, SqL.of (unhid _ _ (e _ _ a1)), by rw [paired_length a2]; exact hi⟩⟩⟩
  have b1 := e _ _ a1
  obtain ⟨v, v1, v2⟩ := paired_get a2 hi
  refine ⟨⟨xs, v, SqL.of (unhid _ _ b1), v1⟩, fun x H' hy => ?_⟩
  obtain ⟨rfl, hy⟩ := hy
  have ev := hy xs (SqL.of (unhid _ _ b1))
  rw [v1] at ev
  cases ev
  exact ⟨Same.refl _, slOk_mono e v2⟩
theorem ds_forS (I : Nat → G → Prop) (hp : PassesOwn (model X.prog X.w) X.A X.env X.xe) (hc : X.calm = true) (hi : DIS X F g tg iter g1 rs) (h0 : I 0 g1)
    (hb : ∀ F' i r gi, rs[i]? = some r → I i gi → ∃ g2 js, DG X F' gi tg r g2 js ∧ DS X F' g2 body ⟨I (i + 1), z.rt, fun gb => DS X F gb rest z, I (i + 1), z.ex⟩) (hk : ∀ gn, I rs.length gn → DS X F gn rest z)
    (hs : ∀ x, foldedSetIterable iter X.env x = pure x := by intro _; rfl) : DS X F g (.For tg iter body [] pos :: rest) z := DS.mk fun σ H D s zk => by
  refine uS_of (pss_cons (ps_for hp hc pi_s pg_s pss_s hs) pss_s) (hi.run σ H _ s fun J H1 s1 k1 j1 => ?_)
  refine ⟨fun i m σ' H' => m + i = rs.length ∧ ∃ gi, I i gi ∧ Sat X.K ⟨F.S, H1, g1.dom⟩ gi σ' H', ⟨rs.length, by omega, g1, h0, s1.rebase⟩, fun i m σ' H' ⟨hm, gi, Ii, si⟩ => ?_⟩
  have up : Same (F.hd g H1) (hid (F.S ++ gi.dom) H') := by
    have := si.stays
    rw [hd_dom hi.dom] at this
    exact this
  have inT : ∀ a ∈ F.S ++ gi.dom, H' a ≠ none := fun a m => si.hidIn (F := ⟨F.S, H1, g1.dom⟩) m
  by_cases e : i < rs.length
  · obtain ⟨go, yl⟩ := j1.go i H' (F.S ++ gi.dom) rs[i] up inT (List.getElem?_eq_getElem e)
    refine .inr ⟨go, fun σ2 H2 => ∃ gi, I (i + 1) gi ∧ Sat X.K ⟨F.S, H1, g1.dom⟩ gi σ2 H2, fun σ2 H2 ⟨g', I', s'⟩ => ⟨m - 1, by omega, by omega, g', I', s'⟩, fun x H2 hy => ?_⟩
    obtain ⟨e2, x2⟩ := yl x H2 hy
    obtain ⟨gt, js, hg, hbody⟩ := hb ⟨F.S, H1, g1.dom⟩ i rs[i] gi (List.getElem?_eq_getElem e) Ii
    have s2 := si.grow e2
    refine hg.run σ' H2 x _ s2 x2 fun σ3 s3 _ => hbody σ3 H2 _ s3 ?_
    exact ⟨fun g' σ4 H4 q s4 => ⟨g', q, s4⟩, fun g' r σ4 v H4 q s4 k4 => zk.rt g' r σ4 v H4 q (s1.unbase s4) k4, fun g' σ4 H4 q s4 => q σ4 H4 D (s1.unbase s4) zk, fun g' σ4 H4 q s4 => ⟨g', q, s4⟩, fun g' C o σ4 d H4 q s4 k => zk.xx g' C o σ4 d H4 q (s1.unbase s4) k⟩
  · have ei : i = rs.length := by omega
    subst ei
    exact .inl ⟨j1.stop _ H' (F.S ++ gi.dom) up (Nat.le_refl _), hk gi Ii σ' H' D (s1.unbase si) zk⟩
end
end DL
end L2
set_option Elab.async false
set_option linter.all false
set_option maxRecDepth 100000
set_option maxHeartbeats 4000000
/-! comprehensions whose block knows the state at its start -/
namespace L2
namespace DL
open PySem PySem.Spec PyProof.Rows LamX
section
variable {X : Cx}
theorem lc_coreG {pins : List (Addr × Obj)} {s : Shared} {σ : St} {H : Hp} {Q : VK} {elt tg iter : Expr} {ifs : List Expr} {scope : Scope} {own : List (Str × Nat)} {pos pos' : Pos} {wi : TI} {g : TG} {tt : TT} {te : TE} {use : Option (Value → Sem Unit)} {Qf : Value → Shared → Prop}
    (hc : X.calm = true) (hN : X.N.Nodup) (I : Inv X pins σ H s) (hi : PI X tg iter wi) (ok : BlkOk X.N X.env.scope scope own)
    (hg : ∀ (s0 : Shared) (H0 : Hp) (C : Addr) (cl : List (Str × Addr)) (fp : List Addr), Inv X pins σ H0 s0 → (∀ b ∈ fp, FpOk X pins H0 b) → PG (X.blk s0 H0 scope (compEnvC scope cl C X.env) fp) tg g) (ht : ∀ (s0 : Shared) (H0 : Hp) (C : Addr) (cl : List (Str × Addr)) (fp : List Addr), Inv X pins σ H0 s0 → (∀ b ∈ fp, FpOk X pins H0 b) → PTs (X.blk s0 H0 scope (compEnvC scope cl C X.env) fp) ifs tt)
    (he : ∀ (s0 : Shared) (H0 : Hp) (C : Addr) (cl : List (Str × Addr)) (fp : List Addr), Inv X pins σ H0 s0 → (∀ b ∈ fp, FpOk X pins H0 b) → PE (X.blk s0 H0 scope (compEnvC scope cl C X.env) fp) elt te) (hs : ∀ x, foldedSetIterable iter X.env x = pure x)
    (h : tLc wi g tt te (own.map (·.2)) σ H Q)
    (hRR : ∀ D C s' m H', Inv X pins σ H' s' → Q (.ref D) H' → s'.heap.Ns C m → FpOk X pins H' C → compPost (model X.prog X.w) X.A X.xe use Qf (.ref D) C (.ok .next) s') :
    wpAny (model X.prog X.w) X.A (comprehension (.ListComp elt [⟨tg, iter, ifs, 0⟩] scope pos) scope X.env pos' (newList []) false (eval iter X.env) use) Qf X.xe s := by
  have hfree : ∀ y ∈ scope.names, y.2 = .free → ∃ c, X.env.cells.lookup y.1 = some c := fun y hy e => by
    rcases ok.free y hy e with k | k
    · exact I.ok.has _ (.inl k)
    · exact I.ok.has _ (.inr k)
  refine wpAny_comprehension_free (use := use) rfl hs (closure_ok hfree) ok.kind (fun y hy e => by rw [ok.uniq y hy, e])
    (thn (hi.run pins s σ H _ I h) fun xv s1 hx => thn hx fun itv s2 h2 => ?_)
  obtain ⟨it, fp, tn, J, H2, e, I2, T, st2, f2, q⟩ := h2
  subst e
  refine wpAny_newObj_type (newEnv_comp ?_) (by show 0 ≤ sizeLine; decide)
  generalize hD : s2.heap.objs.size = D
  have hDn : H2 D = none := I2.hok.fresh (Nat.le_of_eq hD)
  obtain ⟨W, ⟨m0, w0⟩, turn⟩ := q D hDn
  generalize hs3 : ({ s2 with heap := s2.heap.push { cls := .type "list", data := .seq ([] : List Value).toArray } } : Shared) = s3
  have I3 : Inv X pins σ (upd H2 D (.lst [])) s3 := by
    rw [← hs3]
    refine I2.laid (t' := s2.toks) (fun b o e => Heap.get?_push_of_some _ e) (Nat.le_of_eq hD) ⟨Nat.zero_le _, [], 0, .nil, ?_⟩
    rw [← hD]
    exact Heap.get?_push_size _ rfl
  have h3 : s3.heap = s2.heap.push { cls := .type "list", data := .seq ([] : List Value).toArray } := by rw [← hs3]
  have sz : ∀ b ∈ fp, b < s2.heap.objs.size := fun b hb => by
    obtain ⟨o, e, _⟩ := T.obj _ _ st2 b hb
    exact Heap.lt_size e
  have f3 : ∀ b ∈ fp, FpOk X pins (upd H2 D (.lst [])) b ∧ b < s3.heap.objs.size := fun b hb => by
    have hlt := sz b hb
    refine ⟨⟨?_, (f2 b hb).2⟩, by rw [h3, Heap.size_push]; exact Nat.lt_succ_of_lt hlt⟩
    rw [upd_ne (by rw [← hD]; exact Nat.ne_of_lt hlt)]
    exact (f2 b hb).1
  have st3 : tn 0 s3.heap := T.keep _ _ _ st2 fun b _ o e => by rw [h3]; exact Heap.get?_push_of_some _ e
  have I4 := block_start I3 ok hN f3
  have pg := hg s3 (upd H2 D (.lst [])) s3.heap.objs.size (cellsFrom (s3.heap.objs.size + 1) scope.names (cloFrom X.env.cells scope.names [])) fp I3 (fun b hb => (f3 b hb).1)
  have pt := ht s3 (upd H2 D (.lst [])) s3.heap.objs.size (cellsFrom (s3.heap.objs.size + 1) scope.names (cloFrom X.env.cells scope.names [])) fp I3 (fun b hb => (f3 b hb).1)
  have pe := he s3 (upd H2 D (.lst [])) s3.heap.objs.size (cellsFrom (s3.heap.objs.size + 1) scope.names (cloFrom X.env.cells scope.names [])) fp I3 (fun b hb => (f3 b hb).1)
  show codeAny _ _ (.compStart (.ListComp elt [⟨tg, iter, ifs, 0⟩] scope pos) 0 (.ref it) (.ref D) (compEnvC scope (cellsFrom (s3.heap.objs.size + 1) scope.names (cloFrom X.env.cells scope.names [])) s3.heap.objs.size X.env)) (compPost (model X.prog X.w) X.A X.xe use Qf (.ref D) s3.heap.objs.size) { s3 with heap := pushCells (s3.heap.push { cls := .type "dict", data := .dict #[] }) scope.names }
  have nfp : ∀ b ∈ fp, (upd H2 D (.lst [])) b = none := fun b hb => (f3 b hb).1.1
  generalize hce : compEnvC scope (cellsFrom (s3.heap.objs.size + 1) scope.names (cloFrom X.env.cells scope.names [])) s3.heap.objs.size X.env = ce at I4 pg pt pe ⊢
  have cL : ce.locals = s3.heap.objs.size := by subst hce; rfl
  generalize hH3 : upd H2 D (.lst []) = H3 at I3 I4 pg pt pe w0 nfp f3
  generalize hs4 : ({ s3 with heap := pushCells (s3.heap.push { cls := .type "dict", data := .dict #[] }) scope.names } : Shared) = s4 at I4 ⊢
  have st4 : tn 0 s4.heap := T.keep _ _ _ st3 fun b _ o e => by rw [← hs4]; exact pushCells_keeps _ _ _ _ (Heap.get?_push_of_some _ e)
  have stat : ∀ {σ' : St} {H' : Hp} {s' : Shared}, Inv (X.blk s3 H3 scope ce fp) [] σ' H' s' → (∀ b ∈ fp, H' b = none) → ∀ b ∈ fp, FpOk (X.blk s3 H3 scope ce fp) [] H' b := fun {σ' H' s'} I' hn b hb =>
    ⟨hn b hb, (I'.ok.exf b hb).1, I'.ok.exfs b hb, .inl hb, fun x c e => (I'.ok.exf b hb).2 x c e, fun p hp => absurd (show p ∈ ([] : List (Addr × Obj)) ++ [] from hp) (by simp)⟩
  have loop : codeAny (model X.prog X.w) X.A (.compLoop (.ListComp elt [⟨tg, iter, ifs, 0⟩] scope pos) 0 (.ref it) (.ref D) ce) (compPost (model X.prog X.w) X.A X.xe use Qf (.ref D) s3.heap.objs.size) s4 := by
    refine compLoop_any (fun n s' => ∃ i H', Inv (X.blk s3 H3 scope ce fp) [] (wipe σ (own.map (·.2))) H' s' ∧ tn i s'.heap ∧ (∀ b ∈ fp, H' b = none) ∧ W i n H') ?_ m0 ⟨0, H3, I4, st4, nfp, w0⟩
    rintro n s5 ⟨i, H5, I5, st5, n5, w5⟩
    rcases turn i n H5 w5 with ⟨stop, qq⟩ | ⟨go, Nx, hNx, step⟩
    · have td := T.done (X.blk s3 H3 scope ce fp) rfl rfl rfl hc i [] s5 _ H5 (fun _ _ => False) I5 (stat I5 n5) st5 stop
      refine thnF td fun r s6 ⟨hr, I6⟩ => ?_
      subst hr
      have I7 : Inv X pins σ H5 s6 := I3.call' (ch := fp) I6.os I6.base I6.hok I6.bare fun b hb => ⟨(f3 b hb).1.2.2.2.1, (f3 b hb).1.2.1, (f3 b hb).1.2.2.2.2.1, (f3 b hb).1.2.2.2.2.2⟩
      have nC : H5 s3.heap.objs.size = none := by
        have z : H5 ce.locals = none := I6.free
        rw [cL] at z
        exact z
      obtain ⟨m, hn, _⟩ := I6.loc
      have hn : s6.heap.Ns ce.locals m := hn
      rw [cL] at hn
      exact hRR D s3.heap.objs.size s6 m H5 I7 qq hn (I3.fpOk (Nat.le_refl _) nC)
    · have ti := T.item (X.blk s3 H3 scope ce fp) rfl rfl rfl hc i [] s5 _ H5 (fun _ _ => False) I5 (stat I5 n5) st5 go
      refine thnF ti fun r s6 ⟨u, hr, h6⟩ => ?_
      subst hr
      refine thnF h6 fun _ s7 ⟨x, H7, I7, r7, y7, st7, n7⟩ => ?_
      have I7' := I7.pinned (stat I7 n7) (T.obj _ _ st7)
      refine thnF (pg.run _ s7 _ H7 x u _ I7' r7 (step x H7 y7)) fun _ s8 ⟨σ8, H8, I8, hw8, q8⟩ => ?_
      refine thnF (pt.run _ s8 σ8 H8 _ I8 q8) fun b s9 ⟨H9, I9, q9⟩ => ?_
      have fin : ∀ {s' : Shared} {H' : Hp}, Inv (X.blk s3 H3 scope ce fp) ([] ++ pinsAt fp s7.heap) σ8 H' s' → Nx H' → ∃ m, m < n ∧ ∃ i H', Inv (X.blk s3 H3 scope ce fp) [] (wipe σ (own.map (·.2))) H' s' ∧ tn i s'.heap ∧ (∀ b ∈ fp, H' b = none) ∧ W i m H' := fun {s' H'} I' nx => by
        obtain ⟨m', hm, w'⟩ := hNx H' nx
        have pin' : ∀ b ∈ fp, ∀ o, s7.heap.get? b = some o → s'.heap.get? b = some o ∧ H' b = none := fun b hb o e =>
          let z := I'.pin (b, o) (List.mem_append_right _ (List.mem_append_right _ (mem_pinsAt hb e)))
          ⟨z.1, z.2.1⟩
        have hl : (wipe σ (own.map (·.2))).length = σ8.length := by rw [← hw8, wipe_length]
        refine ⟨m', hm, i + 1, H', (I'.unpinned (pins := [])).weak hl (fun j v e => ?_), T.keep _ _ _ st7 fun b hb o e => (pin' b hb o e).1, fun b hb => ?_, w'⟩
        · rw [← hw8] at e
          exact (wipe_some e).1
        · obtain ⟨o, e, _⟩ := T.obj _ _ st7 b hb
          exact (pin' b hb o e).2
      cases b with
      | false =>
        simp only [Bool.false_eq_true, if_false] at q9 ⊢
        exact fin I9 q9
      | true =>
        simp only [if_true] at q9 ⊢
        refine thnF (pe.run _ s9 σ8 H9 _ I9 q9) fun z s10 ⟨yv, H10, I10, r10, acc, hD10, hz10, nx⟩ => ?_
        exact app_ok (X := X.blk s3 H3 scope ce fp) I10 hD10 hz10 r10 fun s11 I11 => fin I11 nx
  exact codeAny_compStart_list loop (T.self X.A 0 _ _ _ st4 loop)
/-- what a block's context knows of the state at its start -/
def CBlk (X : Cx) (pins : List (Addr × Obj)) (σ : St) (s0 : Shared) (H0 : Hp) (fp : List Addr) : Prop := Inv X pins σ H0 s0 ∧ ∀ b ∈ fp, FpOk X pins H0 b
theorem cellsAt_blk {pins0 pins : List (Addr × Obj)} {σ0 σ : St} {s0 s : Shared} {H0 H : Hp} {fp : List Addr} {scope : Scope} {C : Addr} {cl : List (Str × Addr)} {B : Heap} (hc : X.calm = true) (K : CBlk X pins0 σ0 s0 H0 fp) (I : Inv (Bx X scope s0 H0 C cl fp) pins σ H s) (hf : ∀ y, X.fn y = true)
    (kp : ∀ b o, s.heap.get? b = some o → H b = none → b ∉ frs X.stack → B.get? b = some o) : CellsAt X σ0 B := by
  obtain ⟨I0, hfp⟩ := K
  have nfr : ∀ x c, X.env.cells.lookup x = some c → c ∉ frs X.stack := fun x c e m => by
    rcases List.mem_cons.mp (I0.stkSub c m) with z | z
    · exact I0.cne x c e z
    · obtain ⟨_, o, ho, _⟩ := I0.ok.funs.mem z
      exact absurd (Nat.lt_of_lt_of_le (Heap.lt_size ho) (I0.ok.cab x c (hf x) e)) (Nat.lt_irrefl _)
  have cell : ∀ x c v, X.env.cells.lookup x = some c → s0.heap.IsCell c v → B.IsCell c v := fun x c v e ⟨o, ho, hd⟩ => by
    have n0 := I0.freeC x c e
    have nx : c ∉ fp := fun m => (hfp c m).2.2.2.2.1 x c e rfl
    exact ⟨o, kp c o (I.base.keep c o ho n0 (nfr x c e) nx) (I.base.free c o ho n0 nx) (nfr x c e), hd⟩
  refine ⟨fun i x v hN hσ hk => ?_, fun y c e => ?_, I0.ok.inj, fun x hk => I0.ok.has x (.inl hk)⟩
  · obtain ⟨m, hn, hl⟩ := I0.loc
    obtain ⟨u, r, q⟩ := hl i x v hN hσ (.inr (.inl hk))
    rcases q with ⟨k, _⟩ | ⟨_, c, e, z⟩
    · rw [hk] at k; cases k
    · exact ⟨c, u, e, cell x c _ e z, r⟩
  · obtain ⟨v, z⟩ := I0.cell y c e
    exact ⟨v, cell y c v e z⟩
theorem eS_callG {Y : Cx} {e : Expr} {es : List Expr} {pos p : Pos} {x : Str} {sp : Heap → Sp} {j k : Nat} (C : CalF Y.prog Y.w Y.K Y.mg j x sp) (P : Heap → Prop) (hP : ∀ pins σ H s B, Inv Y pins σ H s → (∀ b o, s.heap.get? b = some o → H b = none → b ∉ frs Y.stack → B.get? b = some o) → P B) (hr : Room k Y.A) (hk : j ≤ k) (hg : Gl Y x) (hdb : (x == ("__debug__" : Str)) = false) (he : starEach (e :: es) Y.env = (false, eval e Y.env) :: starEach es Y.env)
    (hpl : (backTo pos (starEach es Y.env)).any (·.1) = false) {σ : St} {H : Hp} {Q : VK} (h : aS Y (e :: es) σ H fun vs H1 => ∀ B, P B → sp B vs H1 Q E0) : eS Y (.Call (.Name x p) (e :: es) [] pos) σ H Q := by
  obtain ⟨f, fd, ps, G, hm, kp, b⟩ := C.ex
  intro pins s I
  refine wpAny_Call_Name_kw (ld_glob I hg hm (PySem.W.callWith_K (h₀ := Y.base) I.ok.mod.kin kp (thn (h pos pins s I) fun us s1 ⟨vs, H1, I1, r, q⟩ => ⟨I1.kIn, ?_⟩) he hpl) hdb)
  obtain ⟨B, e0, kB⟩ := I1.ground
  have hsp := q B (hP _ _ _ _ B I1 kB)
  have b2 := b s1 us I1.kIn (by rw [List.append_nil, ← r.length]; exact (G B).len _ _ _ _ hsp)
  rw [List.append_nil] at b2
  refine wpAny_call (codeAny_mono ((G B).run Y.A Y.stack s1 H1 ⟨us, []⟩ us vs Q E0 (hr.mono hk) e0 b2 r hsp) fun r s' hq => ?_)
  match r, hq with
  | .error e, hq => exact hq.elim
  | .ok (.ret u), hq => exact I1.after hq
  | .ok .next, hq => exact hq.elim
  | .ok .brk, hq => exact hq.elim
  | .ok .cont, hq => exact hq.elim
/-- a lambda handed on from within a block -/
theorem deB_callF {F : Fm} {g g2 g3 : G} {e : Expr} {es : List Expr} {pos p : Pos} {ds cds : List PyData} {d : PyData} {pins0 : List (Addr × Obj)} {σ0 : St} {s0 : Shared} {H0 : Hp} {fp : List Addr} {bsc : Scope} {C0 : Addr} {bcl : List (Str × Addr)} {x : Str} {k j kk : Nat} {is : List Nat} {ql : Str} {params : Arguments} {body : Expr} {scope : Scope} {cl : List (Str × Addr)}
    {R : List PyData → Out → Prop} {RR : List PyData → PyData → Prop} (hc : X.calm = true) (K : CBlk X pins0 σ0 s0 H0 fp) (hs0 : Paired (SlOk X.K (hid (F.S ++ F.M) F.H0)) σ0 g.sl) (C : CalF X.prog X.w X.K X.mg j x (fun B => spV X.K (IsAct X.prog X.w X.K X.mg B kk R cds) RR)) (hfn : ∀ y, X.fn y = true) (hr : Room k X.A)
    (h1 : DE (Bx X bsc s0 H0 C0 bcl fp) F g2 e g2 (.p (IsLam ql params body scope cl) isLam_mono)) (ha : DAd (Bx X bsc s0 H0 C0 bcl fp) F g2 es g3 ds) (hR : RR ds d)
    (hcap : ∀ (i : Nat) (d : PyData), cds[i]? = some d → ∃ (j : Nat) (y : Str), is[i]? = some j ∧ X.N[j]? = some y ∧ g.sl[j]? = some (.d d)) (hlen : is.length = cds.length)
    (hrun : ∀ B σ vals, CellsAt X σ B → vals.length = cds.length → (∀ (i : Nat) (j : Nat) v, is[i]? = some j → vals[i]? = some v → σ[j]? = some (some v)) → LamRun X.prog X.w X.K X.mg B kk ql params body scope cl (spCap X.K vals R))
    (hk : j ≤ k := by decide) (hg : Gl (Bx X bsc s0 H0 C0 bcl fp) x := by rfl) (hdb : (x == ("__debug__" : Str)) = false := by decide) (he : starEach (e :: es) (Bx X bsc s0 H0 C0 bcl fp).env = (false, eval e (Bx X bsc s0 H0 C0 bcl fp).env) :: starEach es (Bx X bsc s0 H0 C0 bcl fp).env := by rfl) (hpl : (backTo pos (starEach es (Bx X bsc s0 H0 C0 bcl fp).env)).any (·.1) = false := by rfl) :
    DE (Bx X bsc s0 H0 C0 bcl fp) F g2 (.Call (.Name x p) (e :: es) [] pos) g3 (.d d) := by
  have hstk : ∀ {g2 : G} {σ : St} {H : Hp}, Sat X.K F g2 σ H → Same (hid (F.S ++ F.M) F.H0) (F.hd g2 H) := fun {g2 σ H} sat b o q => by
    obtain ⟨m, q⟩ := hid_some q
    simp only [List.mem_append, not_or] at m
    refine hid_of (fun z => ?_) (sat.ex b o q m.2)
    rcases List.mem_append.mp z with z | z
    · exact m.1 z
    · rcases sat.fr b z with y | y
      · rw [y] at q; cases q
      · exact m.2 y
  refine ⟨ha.dom, fun σ H Q s q => eS_callG (Y := Bx X bsc s0 H0 C0 bcl fp) C (CellsAt X σ0) (fun pins σ H s B I kB => cellsAt_blk hc K I hfn kB) hr hk hg hdb he hpl (aS_of (pa_cons pe_s pa_s he) (h1.run σ H _ s fun v H1 s1 k1 x1 => ha.run σ H1 _ s1 fun vs H2 s2 k2 x2 B hB => ?_))⟩
  obtain ⟨f, m, ev, e1, e2, e3, e4, e5, hdf, hf, hcc⟩ : IsLam ql params body scope cl v (F.hd g2 H1) := x1
  have st := hstk s2
  rw [hd_dom ha.dom] at st
  have vex : ∀ (l : List PyData) (is : List Nat), (∀ (i : Nat) (d : PyData), l[i]? = some d → ∃ (j : Nat) (y : Str), is[i]? = some j ∧ X.N[j]? = some y ∧ g.sl[j]? = some (.d d)) → ∃ vals : List V, DtAll X.K (F.hd g2 H2) vals l ∧ ∀ (i : Nat) (j : Nat) v, is[i]? = some j → vals[i]? = some v → σ0[j]? = some (some v) := by
    intro l
    induction l with
    | nil => intro is _; exact ⟨[], .nil, fun i j v _ h => by simp at h⟩
    | cons d l ih =>
      intro is h
      obtain ⟨j0, y, a1, a2, a3⟩ := h 0 d rfl
      cases is with
      | nil => simp at a1
      | cons j1 is =>
        have a1 : j1 = j0 := by simpa using a1
        subst a1
        obtain ⟨vals, b1, b2⟩ := ih is fun i d hd => h (i + 1) d hd
        obtain ⟨ov, c1, c2⟩ := paired_get hs0 a3
        cases ov with
        | none => exact c2.elim
        | some v0 =>
          refine ⟨v0 :: vals, .cons (dp_mono st c2) b1, fun i j v hi hv => ?_⟩
          cases i with
          | zero => simp at hi hv; subst hi hv; exact c1
          | succ i => exact b2 i j v (by simpa using hi) (by simpa using hv)
  obtain ⟨vals, v1, v2⟩ := vex cds is hcap
  have hr' := hrun B σ0 vals hB (dpAll_length v1) v2
  refine ⟨F.S ++ g2.dom, v, vs, ds, d, rfl, fun a mm => s2.hidIn (by rw [ha.dom]; exact mm), ⟨f, m, vals, ev, dfOk_mono k2 (by rw [e2]; exact hdf), k2 _ _ hf, k2 _ _ hcc, v1, ?_⟩, x2, hR, fun u H' e' x' => q u H' (s2.grow e') (k1.trans (k2.trans (hid_same e'))) x'⟩
  rw [e1, e2, e3, e4, e5]
  exact hr'
/-- [.. for x in xs if ..], no item taken, nothing of ours touched: the block knows the state at its start -/
theorem dn_lcNone {F : Fm} {g : G} {pos : Pos} {rs : List Sl} {tg iter elt : Expr} {ifs : List Expr} {scope : Scope} {own : List (Str × Nat)} (nd : X.N.Nodup) (hc : X.calm = true) (hi : DIS X F g tg iter g rs)
    (step : ∀ (i : Nat) (r : Sl), rs[i]? = some r → ∃ g2 js, (∀ s0 H0 C cl fp F', DG (Bx X scope s0 H0 C cl fp) F' ⟨wipeS g.sl (own.map (·.2)), []⟩ tg r g2 js) ∧ (∀ j ∈ js, j ∈ own.map (·.2)) ∧
      ∀ pins0 σ0 s0 H0 C cl fp F', F'.M = [] → CBlk X pins0 σ0 s0 H0 fp → Paired (SlOk X.K (hid (F'.S ++ F'.M) F'.H0)) σ0 g.sl → DTs (Bx X scope s0 H0 C cl fp) F' g2 ifs g2 false)
    (ok : BlkOk X.N X.env.scope scope own) (hs : ∀ x, foldedSetIterable iter X.env x = pure x := by intro _; rfl) : DN X F g (.ListComp elt [⟨tg, iter, ifs, 0⟩] scope pos) g (.lst []) := by
  refine ⟨rfl, fun σ H Q s q pins st I => ?_⟩
  rw [eval_ListComp]
  refine lc_coreG (g := fun v σ' H' Q => ∀ s0 H0 C cl fp, CBlk X pins σ s0 H0 fp → gS (Bx X scope s0 H0 C cl fp) tg v σ' H' Q) (tt := fun σ' H' Q => ∀ s0 H0 C cl fp, CBlk X pins σ s0 H0 fp → psS (Bx X scope s0 H0 C cl fp) ifs σ' H' Q) (te := fun _ _ _ => False) (own := own) (wi := iS X tg iter) (Q := Q)
    hc nd I pi_s ok (fun s0 H0 C cl fp I0 hf => bx_calm hc ▸ ⟨fun pins s _ _ _ u _ I r h => h s0 H0 C cl fp ⟨I0, hf⟩ pins s u I r⟩) (fun s0 H0 C cl fp I0 hf => bx_calm hc ▸ ⟨fun pins s _ _ _ I h => h s0 H0 C cl fp ⟨I0, hf⟩ pins s I⟩) (fun s0 H0 C cl fp I0 hf => ⟨fun pins s _ _ _ I h => h.elim⟩) hs ?_ fun D C s' m H' I' q hn f => ⟨m, hn, fun h'' sb => ?_⟩
  · refine hi.run σ H _ s fun J H1 s1 k1 j1 D nD => ?_
    have hDS : D ∉ F.S ++ g.dom := s1.newOut nD
    refine ⟨fun i m H' => m + i = rs.length ∧ Same (upd H1 D (.lst [])) H', ⟨rs.length, by omega, Same.refl _⟩, fun i m H' ⟨hm, ki⟩ => ?_⟩
    have e1 : Same H1 H' := (same_new nD).trans ki
    have up : Same (F.hd g H1) (hid (D :: (F.S ++ g.dom)) H') := hid_mono e1 fun a m => by
      rcases List.mem_cons.mp m with m | m
      · exact .inr (m ▸ nD)
      · exact .inl m
    have hD : H' D = some (.lst []) := ki _ _ upd_same
    have inT : ∀ a ∈ D :: (F.S ++ g.dom), H' a ≠ none := fun a m z => by
      rcases List.mem_cons.mp m with m | m
      · rw [m, hD] at z; cases z
      · cases y : H1 a with
        | none => exact s1.hidIn m y
        | some o => rw [e1 a o y] at z; cases z
    by_cases e : i < rs.length
    · obtain ⟨go, yl⟩ := j1.go i H' (D :: (F.S ++ g.dom)) rs[i] up inT (List.getElem?_eq_getElem e)
      refine .inr ⟨go, fun H2 => Same (upd H1 D (.lst [])) H2, fun H2 h2 => ⟨m - 1, by omega, by omega, h2⟩, fun x H2 hy => ?_⟩
      obtain ⟨e2, x2⟩ := yl x H2 hy
      obtain ⟨g2, js, hg, hj, ht⟩ := step i rs[i] (List.getElem?_eq_getElem e)
      have up2 : Same (F.hd g H1) (hid (D :: (F.S ++ g.dom)) H2) := up.trans (hid_same e2)
      have slE : Paired (SlOk X.K (hid (D :: (F.S ++ g.dom)) H2)) σ g.sl := paired_mono (fun _ _ z => slOk_mono up2 z) s1.sl
      have sF : Sat X.K ⟨D :: (F.S ++ g.dom), H2, []⟩ ⟨wipeS g.sl (own.map (·.2)), []⟩ (wipe σ (own.map (·.2))) H2 := by
        refine ⟨?_, fun p hp => absurd hp (by simp), List.nodup_nil, fun _ _ q' _ => q', fun a m => absurd m (by simp), fun a m => ⟨fun z => ?_, by simp⟩, fun a m => absurd m (by simp)⟩
        · show Paired (SlOk X.K (hid ((D :: (F.S ++ g.dom)) ++ []) H2)) _ _
          rw [List.append_nil]
          exact wipe_ok slE _
        · have z : H2 a = none := z
          cases y : H' a with
          | none => exact inT a m y
          | some o => rw [e2 a o y] at z; cases z
      refine fun s0 H0 C cl fp hK => (hg s0 H0 C cl fp ⟨D :: (F.S ++ g.dom), H2, []⟩).run _ H2 x _ sF (by
        show SlOk X.K (hid ((D :: (F.S ++ g.dom)) ++ []) H2) (some x) _
        rw [List.append_nil]
        exact x2) fun σ3 s3 b3 => ⟨(b3 _ hj).trans (wipe_wipe _ _), ?_⟩
      refine fun s0 H0 C cl fp hK => (ht pins σ s0 H0 C cl fp ⟨D :: (F.S ++ g.dom), H2, []⟩ rfl hK (by
        show Paired (SlOk X.K (hid ((D :: (F.S ++ g.dom)) ++ []) H2)) _ _
        rw [List.append_nil]
        exact slE)).run σ3 H2 _ s3 fun H4 s4 k4 => ?_
      exact ki.trans (e2.trans fun b o q' => s4.ex b o q' (by simp))
    · have ei : i = rs.length := by omega
      subst ei
      refine .inl ⟨j1.stop _ H' (D :: (F.S ++ g.dom)) up (Nat.le_refl _), ?_⟩
      obtain ⟨s2, k2⟩ := s1.bornO (od := .lst []) nD e1 hD ⟨[], rfl, .nil⟩
      exact q D H' (s1.newM nD) hDS (s1.fresh0 nD) s2 (k1.trans k2)
  · obtain ⟨f0, f1, f2, f3, f4, f5⟩ := f
    exact ⟨.ref D, H', I'.turned (t' := s'.toks) (fun b o hb e => (sb.2 b hb).trans e) f0 f1 f3 f4 f5, rfl, q⟩
end
end DL
end L2
set_option Elab.async false
set_option linter.all false
set_option maxRecDepth 100000
set_option maxHeartbeats 4000000
/-! plain: texts of fields, texts put otherwise -/
namespace L2
namespace DL
open PySem PySem.Spec PyProof.Rows TL
def wordOfF (f : Field) : Str := f.1 ++ (":" : Str) ++ PySem.Str.ofString (toString f.2)
def writtenF (fs : List Field) : Str := Txt.join " " (fs.map wordOfF)
def noneAt (ws : List Str) : Option Nat := ws.findIdx? fun x => (fieldOf x).isNone
def fieldsOf (ws : List Str) : List Field := ws.filterMap fieldOf
theorem noneAt_all {ws : List Str} (h : noneAt ws = none) : ∀ x ∈ ws, ∃ f, fieldOf x = some f := fun x hx => by
  unfold noneAt at h
  rw [List.findIdx?_eq_none_iff] at h
  have := h x hx
  rw [← Option.isSome_iff_exists]
  simpa using this
theorem fields_words : ∀ {ws : List Str}, (∀ x ∈ ws, ∃ f, fieldOf x = some f) → (fieldsOf ws).map wordOfF = ws
  | [], _ => rfl
  | x :: ws, h => by
    obtain ⟨f, hf⟩ := h x List.mem_cons_self
    have ih := fields_words (ws := ws) fun y hy => h y (List.mem_cons_of_mem _ hy)
    unfold fieldsOf at ih ⊢
    rw [List.filterMap_cons, hf, List.map_cons, ih]
    congr 1
    exact word_back hf
theorem fields_len {ws : List Str} (h : ∀ x ∈ ws, ∃ f, fieldOf x = some f) : (fieldsOf ws).length = ws.length := by
  have := congrArg List.length (fields_words h)
  rwa [List.length_map] at this
/-- the text of what was read is the text -/
theorem written_read {t : Str} (h : noneAt (wordsOf 32 t) = none) : writtenF (fieldsOf (wordsOf 32 t)) = t := by
  unfold writtenF
  rw [fields_words (noneAt_all h)]
  exact join_words rfl
theorem size_sign : ∀ n : Int, isSize n → (PySem.Str.ofString (toString n)).cps.toList = [48 + n.toNat] ∧ 48 + n.toNat ∈ figsL ∧ ((48 + n.toNat - 48 : Nat) : Int) = n := by
  rintro n (rfl | rfl | rfl) <;> decide +kernel
theorem word_signs {f : Field} (h : isSize f.2) : tl (wordOfF f) = tl f.1 ++ [58, 48 + f.2.toNat] := by
  unfold wordOfF
  rw [tl_append, tl_append]
  show tl f.1 ++ [58] ++ (PySem.Str.ofString (toString f.2)).cps.toList = _
  rw [(size_sign _ h).1, List.append_assoc]
  rfl
theorem name_letters {t : Str} (h : isName t = true) : tl t ≠ [] ∧ ∀ x ∈ tl t, x ∈ lettersL := by
  unfold isName at h
  simp only [Bool.and_eq_true, decide_eq_true_eq, List.all_eq_true] at h
  refine ⟨fun e => ?_, h.2⟩
  have : t.length = 0 := by show t.cps.size = 0; rw [← Array.length_toList, show t.cps.toList = [] from e]; rfl
  omega
theorem fieldOf_word {f : Field} (h : okField f) : fieldOf (wordOfF f) = some f := by
  obtain ⟨a, b⟩ := name_letters h.1
  obtain ⟨_, c, d⟩ := size_sign _ h.2
  rw [fieldOf_of (word_signs h.2) a b c, mk_tl, d]
theorem word_noblank {f : Field} (h : okField f) : 32 ∉ tl (wordOfF f) := by
  rw [word_signs h.2]
  intro m
  rcases List.mem_append.mp m with m | m
  · exact letters_free.2 ((name_letters h.1).2 32 m)
  · have := (size_sign _ h.2).2.1
    simp only [List.mem_cons, List.not_mem_nil, or_false] at m
    rcases m with m | m
    · cases m
    · rw [← m] at this
      exact absurd this (by decide)
theorem words_written {fs : List Field} (v : ValidFs fs) : wordsOf 32 (writtenF fs) = fs.map wordOfF := by
  rw [← split_words (s := 32) (b := " ") rfl (by decide)]
  refine split_join (s := 32) (S := []) rfl (by decide +kernel) ?_ fun p hp => ?_
  · intro e
    have := v.pos
    rw [List.map_eq_nil_iff] at e
    rw [e] at this
    cases this
  · obtain ⟨f, hf, rfl⟩ := List.mem_map.mp hp
    exact word_noblank (v.ok f hf)
theorem noneAt_written {fs : List Field} (h : ∀ f ∈ fs, okField f) : noneAt (fs.map wordOfF) = none := by
  unfold noneAt
  rw [List.findIdx?_eq_none_iff]
  intro x hx
  obtain ⟨f, hf, rfl⟩ := List.mem_map.mp hx
  rw [fieldOf_word (h f hf)]
  rfl
theorem fieldsOf_written {fs : List Field} (h : ∀ f ∈ fs, okField f) : fieldsOf (fs.map wordOfF) = fs := by
  unfold fieldsOf
  induction fs with
  | nil => rfl
  | cons f fs ih =>
    rw [List.map_cons, List.filterMap_cons, fieldOf_word (h f List.mem_cons_self)]
    show f :: _ = _
    rw [ih fun g hg => h g (List.mem_cons_of_mem _ hg)]
/-- what a text's reading tells -/
def toldD (t : Str) : PyData := match noneAt (wordsOf 32 t) with
  | some k => .tuple [.str "text", .int (k : Nat)]
  | none => match firstBad (fieldsOf (wordsOf 32 t)) with
    | some n => .tuple [.str "fields", .int (n : Nat)]
    | none => encFs (fieldsOf (wordsOf 32 t))
theorem told_written {fs : List Field} (v : ValidFs fs) : toldD (writtenF fs) = encFs fs := by
  unfold toldD
  rw [words_written v, noneAt_written v.ok, fieldsOf_written v.ok, v.fb]
theorem told_empty : toldD "" = .tuple [.str "text", .int 0] := by
  have : noneAt (wordsOf 32 "") = some 0 := by decide +kernel
  unfold toldD
  rw [this]
  rfl
/-- the places of the words that write nothing -/
theorem bad_first {ws : List Str} : ((List.range ws.length).filter fun k => !(fieldOf (ws.getD k "")).isSome).head? = noneAt ws := by
  rw [List.head?_filter]
  unfold noneAt
  cases h : ws.findIdx? fun x => (fieldOf x).isNone with
  | none =>
    rw [List.find?_eq_none]
    intro k hk
    have hk := List.mem_range.mp hk
    rw [List.findIdx?_eq_none_iff] at h
    have := h _ (List.getElem_mem hk)
    rw [List.getD_eq_getElem?_getD, List.getElem?_eq_getElem hk]
    simpa [Option.isSome_iff_ne_none] using this
  | some i =>
    rw [List.findIdx?_eq_some_iff_getElem] at h
    obtain ⟨hi, h1, h2⟩ := h
    rw [List.find?_range_eq_some]
    refine ⟨?_, List.mem_range.mpr hi, fun j hj => ?_⟩
    · rw [List.getD_eq_getElem?_getD, List.getElem?_eq_getElem hi]
      simpa using h1
    · have := h2 j hj
      rw [List.getD_eq_getElem?_getD, List.getElem?_eq_getElem (by omega)]
      simpa [Option.isSome_iff_ne_none] using this
/-! ### lengths -/
def jl (ys : List Str) : Nat := (ys.map (·.length)).sum + ys.length
theorem tl_len (t : Str) : (tl t).length = t.length := by simp [Str.length]
theorem join_len : ∀ ys : List Str, (Txt.join " " ys).length ≤ jl ys := fun ys => by
  have key : ∀ zs : List (List Nat), (joinL [32] zs).length ≤ (zs.map List.length).sum + zs.length := by
    intro zs
    induction zs with
    | nil => exact Nat.le_refl _
    | cons z zs ih =>
      cases zs with
      | nil => show z.length ≤ _; simp
      | cons y zs =>
        rw [joinL_cons_cons, List.length_append, List.length_append]
        simp only [List.map_cons, List.sum_cons, List.length_cons, List.length_nil] at ih ⊢
        omega
  have := key (ys.map tl)
  rw [← tl_len, join_eq, tl_join]
  refine Nat.le_trans this ?_
  unfold jl
  rw [List.map_map, List.length_map]
  have e : (List.length ∘ tl) = fun x : Str => x.length := by funext x; exact tl_len x
  rw [e]
  exact Nat.le_refl _
theorem cuts_sum (s : Nat) : ∀ l, ((cuts s l).map List.length).sum + (cuts s l).length = l.length + 1
  | [] => by simp [cuts]
  | c :: l => by
    have ih := cuts_sum s l
    unfold cuts
    split
    · simp only [List.map_cons, List.sum_cons, List.length_cons, List.length_nil]; omega
    · cases e : cuts s l with
      | nil => exact absurd e (cuts_ne s l)
      | cons p r =>
        rw [e] at ih
        simp only [List.map_cons, List.sum_cons, List.length_cons, List.headD_cons, List.tail_cons] at ih ⊢
        omega
theorem jl_words (t : Str) : jl (wordsOf 32 t) = t.length + 1 := by
  have := cuts_sum 32 (tl t)
  rw [tl_len] at this
  rw [← this]
  unfold jl wordsOf
  rw [List.map_map, List.length_map]
  congr 3
theorem jl_append (xs ys : List Str) : jl (xs ++ ys) = jl xs + jl ys := by
  unfold jl
  rw [List.map_append, List.sum_append, List.length_append]
  omega
theorem jl_sub {xs ys : List Str} (h : xs.Sublist ys) : jl xs ≤ jl ys := by
  induction h with
  | slnil => exact Nat.le_refl _
  | cons a _ ih => unfold jl at *; simp only [List.map_cons, List.sum_cons, List.length_cons]; omega
  | cons_cons a _ ih => unfold jl at *; simp only [List.map_cons, List.sum_cons, List.length_cons]; omega
theorem jl_len (ys : List Str) : (ys.map (·.length)).sum + ys.length * 1 = jl ys ∧ ys.length ≤ jl ys := by
  unfold jl
  omega
/-! ### a text put otherwise -/
def oddL : List Str := ["", ":", "a:", ":1", "a1", "a:1:", "a::1", "A:1", "a:b", "a:12", "a:-1", "1:a", "a:1a", "ab c:1", "a.:1", "a:4", "b:2", "c:1", "d:0", "abcdefg:1", "z:9", "a:1 ", " a:1", "a :1", "a: 1", "aa:2", "q", "2", "a;1"]
theorem odd_ok : oddL.length = 29 ∧ ∀ x ∈ oddL, x.length ≤ 9 ∧ PyData.strOk x = true := by decide +kernel
def signsT : Str := "abz:1240 A.9-"
theorem signs_ok : signsT.cps.toList.length = 13 ∧ ∀ c ∈ signsT.cps.toList, c < 0x110000 := by decide +kernel
def newWords (ws : List Str) (a k : Nat) (w : Str) : List Str :=
  if k < 2 then ws.take a ++ [w] ++ ws.drop (a + k) else if k = 2 then ws.take a ++ ws.drop (a + 1) else ws.take a ++ (ws.drop a).take 1 ++ ws.drop a
def newSigns (t : Str) (p : Nat) (c : Nat) (r1 r2 : Nat) : Str := ⟨((tl t).take p ++ List.replicate r1 c ++ (tl t).drop (p + r2)).toArray⟩
def changedF (l : List Int) (t : Str) : List Int × Str :=
  let ws := wordsOf 32 t
  let o1 := off l (ws.length + 1)
  let o2 := off o1.2 29
  let o3 := off o2.2 5
  if o3.1 < 4 then (o3.2, Txt.join " " (newWords ws o1.1.toNat o3.1.toNat (oddL.getD o2.1.toNat "")))
  else
    let o4 := off o3.2 (t.length + 1)
    let o5 := off o4.2 13
    let o6 := off o5.2 2
    let o7 := off o6.2 2
    (o7.2, newSigns t o4.1.toNat (signsT.cps.toList.getD o5.1.toNat 0) o6.1.toNat o7.1.toNat)
theorem newWords_jl {t w : Str} {a k : Nat} (hw : w.length ≤ 9) : jl (newWords (wordsOf 32 t) a k w) ≤ 2 * t.length + 12 := by
  have h1 := jl_words t
  have e : jl (wordsOf 32 t) = jl ((wordsOf 32 t).take a) + jl ((wordsOf 32 t).drop a) := by rw [← jl_append, List.take_append_drop]
  have jw : jl [w] = w.length + 1 := by unfold jl; simp
  unfold newWords
  split
  · rw [jl_append, jl_append, jw]
    have : jl ((wordsOf 32 t).drop (a + k)) ≤ jl ((wordsOf 32 t).drop a) := jl_sub (by rw [← List.drop_drop]; exact List.drop_sublist _ _)
    omega
  · split
    · rw [jl_append]
      have : jl ((wordsOf 32 t).drop (a + 1)) ≤ jl ((wordsOf 32 t).drop a) := jl_sub (by rw [← List.drop_drop]; exact List.drop_sublist _ _)
      omega
    · rw [jl_append, jl_append]
      have : jl (((wordsOf 32 t).drop a).take 1) ≤ jl ((wordsOf 32 t).drop a) := jl_sub (List.take_sublist _ _)
      omega
theorem strOk_iff {t : Str} : PyData.strOk t = true ↔ ∀ c ∈ tl t, c < 0x110000 := by
  unfold PyData.strOk
  rw [← Array.all_toList, List.all_eq_true]
  simp
theorem join_ok {ys : List Str} (h : ∀ y ∈ ys, PyData.strOk y = true) : PyData.strOk (Txt.join " " ys) = true := by
  rw [strOk_iff, join_eq, tl_join]
  show ∀ c ∈ joinL [32] (ys.map tl), c < 0x110000
  induction ys with
  | nil => intro c hc; cases hc
  | cons y ys ih =>
    have hy := strOk_iff.mp (h y List.mem_cons_self)
    have ih := ih fun z hz => h z (List.mem_cons_of_mem _ hz)
    cases ys with
    | nil => exact hy
    | cons z ys =>
      intro c hc
      rw [List.map_cons, List.map_cons, joinL_cons_cons] at hc
      rcases List.mem_append.mp hc with hc | hc
      · exact hy c hc
      · rcases List.mem_append.mp hc with hc | hc
        · rw [List.mem_singleton] at hc; omega
        · exact ih c hc
theorem newWords_mem {ws : List Str} {a k : Nat} {w x : Str} (h : x ∈ newWords ws a k w) : x = w ∨ x ∈ ws := by
  unfold newWords at h
  split at h
  · rcases List.mem_append.mp h with h | h
    · rcases List.mem_append.mp h with h | h
      · exact .inr (List.mem_of_mem_take h)
      · exact .inl (List.mem_singleton.mp h)
    · exact .inr (List.mem_of_mem_drop h)
  · split at h
    · rcases List.mem_append.mp h with h | h
      · exact .inr (List.mem_of_mem_take h)
      · exact .inr (List.mem_of_mem_drop h)
    · rcases List.mem_append.mp h with h | h
      · rcases List.mem_append.mp h with h | h
        · exact .inr (List.mem_of_mem_take h)
        · exact .inr (List.mem_of_mem_drop (List.mem_of_mem_take h))
      · exact .inr (List.mem_of_mem_drop h)
theorem words_ok {t x : Str} {s : Nat} (h : PyData.strOk t = true) (hx : x ∈ wordsOf s t) : PyData.strOk x = true := by
  obtain ⟨l, hl, rfl⟩ := List.mem_map.mp hx
  exact strOk_iff.mpr fun c hc => strOk_iff.mp h c (cuts_mem s _ l hl c hc)
theorem changedF_ok {l : List Int} {t : Str} (hD : Dc l) (hok : PyData.strOk t = true) : Dc (changedF l t).1 ∧ (changedF l t).2.length ≤ 2 * t.length + 12 ∧ PyData.strOk (changedF l t).2 = true := by
  obtain ⟨k2, e2, h2⟩ := off_nat (l := (off l ((wordsOf 32 t).length + 1)).2) (m := 29) (by decide)
  have hw : oddL.getD k2 "" ∈ oddL := by
    rw [List.getD_eq_getElem?_getD, List.getElem?_eq_getElem (by rw [odd_ok.1]; exact h2)]
    exact List.getElem_mem _
  unfold changedF
  dsimp only
  have e2 : (off (off l ((wordsOf 32 t).length + 1)).2 29).1 = (k2 : Int) := e2
  rw [e2, Int.toNat_natCast]
  split
  · dsimp only
    refine ⟨off_dc (off_dc (off_dc hD _) _) _, Nat.le_trans (join_len _) (newWords_jl (odd_ok.2 _ hw).1), join_ok fun y hy => ?_⟩
    rcases newWords_mem hy with rfl | hy
    · exact (odd_ok.2 _ hw).2
    · exact words_ok hok hy
  · dsimp only
    refine ⟨off_dc (off_dc (off_dc (off_dc (off_dc (off_dc (off_dc hD _) _) _) _) _) _) _, ?_, strOk_iff.mpr fun c hc => ?_⟩
    · rw [← tl_len]
      unfold newSigns
      show (List.take _ (tl t) ++ List.replicate _ _ ++ List.drop _ (tl t)).length ≤ _
      rw [List.length_append, List.length_append, List.length_take, List.length_replicate, List.length_drop, tl_len]
      generalize hx : (off (off (off (off (off (off l ((wordsOf 32 t).length + 1)).2 29).2 5).2 (t.length + 1)).2 13).2 2) = o6
      have a := off_hi (l := (off (off (off (off (off l ((wordsOf 32 t).length + 1)).2 29).2 5).2 (t.length + 1)).2 13).2) (m := 2) (by decide)
      have b := off_lo (l := (off (off (off (off (off l ((wordsOf 32 t).length + 1)).2 29).2 5).2 (t.length + 1)).2 13).2) (m := 2) (by decide)
      rw [hx] at a b
      omega
    · unfold newSigns at hc
      have hc : c ∈ List.take _ (tl t) ++ List.replicate _ _ ++ List.drop _ (tl t) := hc
      rcases List.mem_append.mp hc with hc | hc
      · rcases List.mem_append.mp hc with hc | hc
        · exact strOk_iff.mp hok c (List.mem_of_mem_take hc)
        · rw [(List.mem_replicate.mp hc).2]
          generalize (off _ 13).1.toNat = i
          rw [List.getD_eq_getElem?_getD]
          cases e : signsT.cps.toList[i]? with
          | none => exact (by decide : (0 : Nat) < 0x110000)
          | some y => exact signs_ok.2 y (List.mem_of_getElem? e)
      · exact strOk_iff.mp hok c (List.mem_of_mem_drop hc)
end DL
end L2
set_option Elab.async false
set_option linter.all false
set_option maxRecDepth 100000
set_option maxHeartbeats 4000000
/-! plain: texts of fields that may be none; the first that cannot be -/
namespace L2
namespace DL
open PySem PySem.Spec PyProof.Rows TL
structure okW (f : Field) : Prop where
  ne : tl f.1 ≠ []
  le : ∀ x ∈ tl f.1, x ∈ lettersL
  len : f.1.length ≤ 7
  lo : 0 ≤ f.2
  hi : f.2 ≤ 9
theorem okW_of {f : Field} (h : okField f) : okW f := by
  obtain ⟨a, b⟩ := name_letters h.1
  have := isName_len h.1
  refine ⟨a, b, by omega, ?_, ?_⟩ <;> rcases h.2 with e | e | e <;> rw [e] <;> decide
theorem size_signW {n : Int} (h0 : 0 ≤ n) (h9 : n ≤ 9) : (PySem.Str.ofString (toString n)).cps.toList = [48 + n.toNat] ∧ 48 + n.toNat ∈ figsL ∧ ((48 + n.toNat - 48 : Nat) : Int) = n := by
  obtain ⟨k, rfl⟩ := Int.eq_ofNat_of_zero_le h0
  have hk : k < 10 := by omega
  refine ⟨by rw [Int.toNat_natCast]; exact digit_signs k hk, ?_, by simp⟩
  rw [Int.toNat_natCast]
  have : ∀ k < 10, 48 + k ∈ figsL := by decide
  exact this k hk
theorem word_signsW {f : Field} (h : okW f) : tl (wordOfF f) = tl f.1 ++ [58, 48 + f.2.toNat] := by
  unfold wordOfF
  rw [tl_append, tl_append]
  show tl f.1 ++ [58] ++ (PySem.Str.ofString (toString f.2)).cps.toList = _
  rw [(size_signW h.lo h.hi).1, List.append_assoc]
  rfl
theorem fieldOf_wordW {f : Field} (h : okW f) : fieldOf (wordOfF f) = some f := by
  obtain ⟨_, c, d⟩ := size_signW h.lo h.hi
  rw [fieldOf_of (word_signsW h) h.ne h.le c, mk_tl, d]
theorem word_noblankW {f : Field} (h : okW f) : 32 ∉ tl (wordOfF f) := by
  rw [word_signsW h]
  intro m
  rcases List.mem_append.mp m with m | m
  · exact letters_free.2 (h.le 32 m)
  · have := (size_signW h.lo h.hi).2.1
    simp only [List.mem_cons, List.not_mem_nil, or_false] at m
    rcases m with m | m
    · cases m
    · rw [← m] at this
      exact absurd this (by decide)
theorem words_writtenW {fs : List Field} (h0 : fs ≠ []) (h : ∀ f ∈ fs, okW f) : wordsOf 32 (writtenF fs) = fs.map wordOfF := by
  rw [← split_words (s := 32) (b := " ") rfl (by decide)]
  refine split_join (s := 32) (S := []) rfl (by decide +kernel) ?_ fun p hp => ?_
  · intro e
    rw [List.map_eq_nil_iff] at e
    exact h0 e
  · obtain ⟨f, hf, rfl⟩ := List.mem_map.mp hp
    exact word_noblankW (h f hf)
theorem noneAt_writtenW {fs : List Field} (h : ∀ f ∈ fs, okW f) : noneAt (fs.map wordOfF) = none := by
  unfold noneAt
  rw [List.findIdx?_eq_none_iff]
  intro x hx
  obtain ⟨f, hf, rfl⟩ := List.mem_map.mp hx
  rw [fieldOf_wordW (h f hf)]
  rfl
theorem fieldsOf_writtenW {fs : List Field} (h : ∀ f ∈ fs, okW f) : fieldsOf (fs.map wordOfF) = fs := by
  unfold fieldsOf
  induction fs with
  | nil => rfl
  | cons f fs ih =>
    rw [List.map_cons, List.filterMap_cons, fieldOf_wordW (h f List.mem_cons_self)]
    show f :: _ = _
    rw [ih fun g hg => h g (List.mem_cons_of_mem _ hg)]
theorem str_app_lenW (x y : Str) : (x ++ y).length = x.length + y.length := by
  show (x ++ y).cps.size = _
  rw [Str.cps_append, Array.size_append]
  rfl
theorem size_textW {n : Int} (h0 : 0 ≤ n) (h9 : n ≤ 9) : (PySem.Str.ofString (toString n)).length = 1 := by
  have := congrArg List.length (size_signW h0 h9).1
  simpa [Str.length] using this
theorem word_lenW {f : Field} (h : okW f) : (wordOfF f).length ≤ 9 := by
  unfold wordOfF
  rw [str_app_lenW, str_app_lenW, size_textW h.lo h.hi]
  have := h.len
  show _ + 1 + 1 ≤ 9
  omega
theorem word_okW {f : Field} (h : okW f) : PyData.strOk (wordOfF f) = true := by
  rw [strOk_iff]
  intro c hc
  rw [word_signsW h] at hc
  have hl : ∀ c ∈ lettersL, c < 0x110000 := by decide +kernel
  have hf : ∀ c ∈ figsL, c < 0x110000 := by decide
  rcases List.mem_append.mp hc with m | m
  · exact hl c (h.le c m)
  · simp only [List.mem_cons, List.not_mem_nil, or_false] at m
    rcases m with m | m
    · omega
    · rw [m]; exact hf _ (size_signW h.lo h.hi).2.1
theorem sum_leW {l : List Nat} {b : Nat} (h : ∀ x ∈ l, x ≤ b) : l.sum ≤ l.length * b := by
  induction l with
  | nil => simp
  | cons x l ih =>
    have h1 := h x List.mem_cons_self
    have h2 := ih fun y hy => h y (List.mem_cons_of_mem _ hy)
    rw [List.sum_cons, List.length_cons, Nat.succ_mul]
    omega
theorem written_lenW {fs : List Field} (h : ∀ f ∈ fs, okW f) : (writtenF fs).length ≤ fs.length * 10 := by
  have h1 := join_len (fs.map wordOfF)
  unfold jl at h1
  rw [List.length_map] at h1
  have h2 := sum_leW (l := (fs.map wordOfF).map (·.length)) (b := 9) fun x hx => by
    obtain ⟨w, hw, rfl⟩ := List.mem_map.mp hx
    obtain ⟨f, hf, rfl⟩ := List.mem_map.mp hw
    exact word_lenW (h f hf)
  rw [List.length_map, List.length_map] at h2
  show (Txt.join " " (fs.map wordOfF)).length ≤ _
  omega
theorem written_okW {fs : List Field} (h : ∀ f ∈ fs, okW f) : PyData.strOk (writtenF fs) = true := join_ok fun y hy => by
  obtain ⟨f, hf, rfl⟩ := List.mem_map.mp hy
  exact word_okW (h f hf)
/-- the first bad one is the one that was put in -/
theorem fb_put {fs : List Field} (v : ValidFs fs) {t : Nat} (ht : t ≤ fs.length) {o : Field} (rest : List Field) (hb : 6 ≤ t ∨ isName o.1 = false ∨ o.1 ∈ (fs.take t).map (·.1) ∨ ¬ isSize o.2) : firstBad (fs.take t ++ [o] ++ rest) = some t := by
  have hl : (fs.take t).length = t := by rw [List.length_take]; omega
  refine firstBad_some (by simp; omega) ?_ fun j hj => ?_
  · unfold badAt
    rw [List.append_assoc, List.getElem?_append_right (by omega), hl, Nat.sub_self]
    show (decide (6 ≤ t) || (!isName o.1 || (decide (o.1 ∈ ((fs.take t ++ ([o] ++ rest)).take t).map (·.1)) || !decide (isSize o.2)))) = true
    rw [List.take_append_of_le_length (by omega), List.take_of_length_le (show (fs.take t).length ≤ t by omega)]
    rcases hb with h | h | h | h
    · rw [decide_eq_true h]; rfl
    · rw [h]; simp
    · rw [decide_eq_true h]; simp
    · rw [decide_eq_false h]; simp
  · have e : badAt (fs.take t ++ [o] ++ rest) j = badAt fs j := by
      unfold badAt
      rw [List.append_assoc, List.getElem?_append_left (by omega), List.getElem?_take, if_pos hj, List.take_append_of_le_length (by omega), List.take_take, Nat.min_eq_left (by omega)]
    rw [e]
    exact v.noBad j
section
variable {X : Cx} {F : Fm} {g g1 g2 : G} {a b : Expr} {pos : Pos}
theorem dpAll_flatten {K : PySem.W.Frag} {H : Hp} {vs : List V} {ds : List PyData} (h : DtAll K H vs ds) : ∀ k : Nat, DtAll K H (List.replicate k vs).flatten (List.replicate k ds).flatten
  | 0 => .nil
  | k + 1 => by
    rw [List.replicate_succ, List.replicate_succ, List.flatten_cons, List.flatten_cons]
    exact dpAll_append h (dpAll_flatten h k)
/-- xs * k -/
theorem dn_rep {ds : List PyData} {k : Int} (ha : DE X F g a g1 (.d (.list ds))) (hb : DE X F g1 b g2 (.d (.int k))) (hk : -(2 ^ 63) ≤ k ∧ k < 2 ^ 63) (hz : ds.length * k.toNat ≤ 100000) : DN X F g (.BinOp a .Mult b pos) g2 (.lst ((List.replicate k.toNat ds).flatten.map .d)) := by
  have dm := hb.dom.trans ha.dom
  refine ⟨dm, fun σ H Q s q => eS_of (pe_op op_rep pe_s pe_s) ?_⟩
  refine ha.run σ H _ s fun x H1 s1 k1 x1 => hb.run σ H1 _ s1 fun y H2 s2 k2 y2 => ?_
  rw [hd_dom ha.dom, hd_dom ha.dom] at k2
  rw [hd_dom ha.dom] at y2
  have x2 := dp_mono k2 x1
  have y2 : Dt X.K _ y (.int k) := y2
  cases y2
  cases x2 with
  | lst a1 a2 =>
    refine ⟨_, k, _, rfl, rfl, unhid _ _ a1, hk.1, hk.2, by rw [dpAll_length a2]; exact Nat.le_trans hz (by decide), fun p hp => dn_at dm s2 (k1.trans k2) p hp ?_ q⟩
    rw [hd_dom dm]
    exact ⟨_, rfl, paired_of_dp (dpAll_flatten a2 _)⟩
end
end DL
end L2
set_option Elab.async false
set_option linter.all false
set_option maxRecDepth 100000
set_option maxHeartbeats 4000000
/-! min of two things that are data -/
namespace MinTwo
open PySem PySem.Spec PyProof.Rows PySem.W PySem.SeqAt
section
variable {prog : Program} {w : World} {A : Around} {E : Value → Shared → Prop} {s : Shared}
theorem call_min_twoH {a b : Value} {Q : Value → Shared → Prop}
    (h : wpAny (model prog w) A.in1 (pyIter (.ref s.heap.objs.size)) (fun it s₂ => ∃ I fp wr G n P St H bt, it = .ref I ∧ WalksS prog w A.in1 I fp wr G n P St ∧ St 0 s₂ ∧ (∀ b ∈ fp, b < s₂.heap.objs.size) ∧ 0 < n ∧
      (∀ b o, H.get? b = some o → b ∉ wr) ∧ (∀ b o, H.get? b = some o → s₂.heap.get? b = some o) ∧ CmpIn prog w A.in1 .Lt H P bt ∧ ∀ v s', P (argBest bt (n - 1)) v → Moved wr G s₂ s' → Q v s') E { s with heap := s.heap.push { cls := .type "tuple", data := .seq #[a, b] } }) :
    wpAny (model prog w) A (call (.builtin "min") [a, b]) Q E s := by
  have hname : (toString "min" ++ toString ".loop" : String) = "min.loop" := by decide
  refine call_function_tree F.kind_min F.plain_min F.entry_min (F.args_min2 _ _) ?_
  show wpAny _ A.in1 (Builtin.Builtins.bindParams "min" ["key", "default"] 0 ⟨[], []⟩ >>= _) _ _ s
  refine wpAny_bind (wpAny_of_eq (show Builtin.Builtins.bindParams "min" ["key", "default"] 0 ⟨[], []⟩ = pure [none, none] from rfl) ?_)
  show wpAny _ A.in1 (newTuple [a, b] >>= _) _ _ s
  refine wpAny_bind (wpAny_newObj_type ?_)
  refine wpAny_bind (wpAny_mono h (fun it s₂ h₂ => ?_) fun _ _ e => e)
  obtain ⟨I, fp, wr, G, n, P, St, H, bt, rfl, W, hst, hfp, hn, hw, hkeep, hcmp, hQ⟩ := h₂
  refine wpAny_bind (wpAny_newObj_type ?_)
  have hSf : s₂.heap.objs.size ∉ fp := fun hm => Nat.lt_irrefl _ (hfp _ hm)
  rw [hname]
  refine wpAny_pure ⟨plainId_quiet F.plain_min_loop _, codeAny_min_loop_firstH W H hw bt hcmp s₂.heap.objs.size hSf (fresh_in hkeep) _ hn (fun b o e => Heap.get?_push_of_some _ (hkeep b o e)) (W.frame 0 s₂ _ s₂.toks hst (Nat.le_refl _) fun b _ o e => Heap.get?_push_of_some _ e) (Heap.get?_push_size _ rfl) fun v s' hP hm => ?_⟩
  exact hQ v s' hP (Moved.drop_new (tk := s₂.toks) hm (Nat.le_refl _))
theorem min_two_data {a b : Value} {x y : PyData} {as : List Addr} {Q : Value → Shared → Prop} (hh : A.handled = none) (hr : ReadsAll s.heap [a, b] [x, y] as) (ha : AlikeAll [x, y]) (hu : A.units + 1 + PyData.depthAll [x, y] < cLine)
    (h : ∀ h' tk, (∀ b o, s.heap.get? b = some o → h'.get? b = some o) → Q (if dataLt y x = true then b else a) { s with heap := h', toks := tk }) :
    wpAny (model prog w) A (call (.builtin "min") [a, b]) Q E s := by
  have hT : (s.heap.push { cls := .type "tuple", data := .seq #[a, b] }).IsTuple s.heap.objs.size #[a, b] := ⟨_, Heap.get?_push_size _ rfl, rfl, 0, rfl⟩
  have kp : ∀ c o, s.heap.get? c = some o → (s.heap.push { cls := .type "tuple", data := .seq #[a, b] }).get? c = some o := fun c o e => Heap.get?_push_of_some _ e
  have hr1 : ReadsAll (s.heap.push { cls := .type "tuple", data := .seq #[a, b] }) (#[a, b] : Array Value).toList [x, y] as := ReadsAll.keeps kp hr
  refine call_min_twoH (iter_tupleW (A := A.in1) (s := { s with heap := s.heap.push { cls := .type "tuple", data := .seq #[a, b] } }) hh hT fun s₂ e W st hfp hw hk => ?_)
  refine ⟨_, _, _, _, _, _, _, s.heap.push { cls := .type "tuple", data := .seq #[a, b] }, _, rfl, W, st, hfp, Nat.succ_pos _, hw, hk, cmpIn_lt (A := A.in1) (s := { s with heap := s.heap.push { cls := .type "tuple", data := .seq #[a, b] } }) hr1 ha (by show A.units + 1 + _ < _; exact hu), fun v s' hP m => ?_⟩
  obtain ⟨h', tk, rfl, hk'⟩ := moved_old e rfl m
  have := h h' tk fun c o e => hk' c o (kp c o e)
  have hP' : (#[a, b] : Array Value)[if dataLt y x = true then 1 else 0]? = some v := hP
  by_cases hl : dataLt y x = true
  · rw [if_pos hl] at this hP'
    have e : b = v := by simpa using hP'
    rw [← e]
    exact this
  · rw [if_neg hl] at this hP'
    have e : a = v := by simpa using hP'
    rw [← e]
    exact this
end
end MinTwo
set_option Elab.async false
set_option linter.all false
set_option maxRecDepth 100000
set_option maxHeartbeats 4000000
/-! dicts of ours by their data -/
namespace L2
namespace DL
open PySem PySem.Spec PyProof.Rows PySem.SeqAt
open PySem.W (dataLt)
section
variable {X : Cx}
/-- min(x, y) of data -/
theorem cd_minTwo {x y : PyData} (ha : PySem.W.AlikeAll [x, y]) (hd : PyData.depthAll [x, y] ≤ 60) (hu : X.A.units + 65 < cLine) (hc : X.calm = true := by rfl) : CallD X (.builtin "min") [x, y] (if dataLt y x = true then y else x) := by
  refine ⟨fun vs H Q => ∃ v w : V, vs = [v, w] ∧ DpAll X.K H [v, w] [x, y] ∧ Q (if dataLt y x = true then w else v) H, ?_, ?_⟩
  · intro pins s σ H vs us Q I r h
    obtain ⟨v, w, rfl, h2, q⟩ := h
    obtain ⟨u, u', rfl, r1, r2⟩ := vals2 r
    obtain ⟨as, h4⟩ := Dp.readsAll I [x, y] [v, w] [u, u'] h2 r
    refine MinTwo.min_two_data (I.ok.hd hc) h4 ha (by omega) fun h' tk hk => ?_
    refine ⟨_, H, I.kept hk, ?_, q⟩
    by_cases hl : dataLt y x = true
    · rw [if_pos hl, if_pos hl]; exact r2
    · rw [if_neg hl, if_neg hl]; exact r1
  · intro S H vs Q hx k m
    have hx0 := hx
    cases hx with
    | cons h1 h2 =>
      cases h2 with
      | cons h2 h3 =>
        cases h3
        refine ⟨_, _, rfl, dt_dpAll (dpAll_mono unhid hx0), k _ H (Same.refl H) m ?_⟩
        by_cases hl : dataLt y x = true
        · rw [if_pos hl, if_pos hl]; exact h2
        · rw [if_neg hl, if_neg hl]; exact h1
end
section
variable {X : Cx} {F : Fm} {g g1 g2 g3 : G} {e a b c : Expr} {es : List Expr} {pos p : Pos} {rest : List Stmt} {z : Z}
/-- {} -/
theorem dn_dnew : DN X F g (.Dict [] [] pos) g (.dk []) := ⟨rfl, fun σ H Q s q => eS_of pe_dnewK fun p hp => dn_at (od := .dk []) (o := .dK []) rfl s (Same.refl _) p hp ⟨[], rfl, .nil⟩ q⟩
def fndK {α : Type} (kvs : List (Key × α)) (k : Key) : Option α := (kvs.find? fun kv => decide (kv.1 = k)).map (·.2)
def setK {α : Type} (kvs : List (Key × α)) (k : Key) (v : α) : List (Key × α) := if (kvs.any fun kv => decide (kv.1 = k)) = true then kvs.map (fun kv => if kv.1 = k then (kv.1, v) else kv) else kvs ++ [(k, v)]
theorem paired_find {K : PySem.W.Frag} {Hd : Hp} {k : Key} : ∀ {ws : List (Key × V)} {kvs : List (Key × Sl)}, Paired (PrOk K Hd) ws kvs → match fndK kvs k with
    | none => valV ws k = none
    | some r => ∃ v, valV ws k = some v ∧ SlOk K Hd (some v) r
  | _, _, .nil => rfl
  | (k1, v) :: ws, (k2, r2) :: kvs, .cons ⟨h1, h2⟩ t => by
    have h1 : k1 = k2 := h1
    subst h1
    have ih := paired_find (k := k) t
    unfold fndK valV at ih ⊢
    by_cases hb : k1 = k
    · rw [List.find?_cons_of_pos (by simpa using hb), List.find?_cons_of_pos (by simpa using hb)]
      exact ⟨v, rfl, h2⟩
    · rw [List.find?_cons_of_neg (by simpa using hb), List.find?_cons_of_neg (by simpa using hb)]
      exact ih
theorem paired_any {K : PySem.W.Frag} {Hd : Hp} {k : Key} : ∀ {ws : List (Key × V)} {kvs : List (Key × Sl)}, Paired (PrOk K Hd) ws kvs → (ws.any fun kv => decide (kv.1 = k)) = kvs.any fun kv => decide (kv.1 = k)
  | _, _, .nil => rfl
  | (k1, v) :: ws, (k2, r2) :: kvs, .cons ⟨h1, h2⟩ t => by
    have h1 : k1 = k2 := h1
    subst h1
    rw [List.any_cons, List.any_cons, paired_any t]
theorem paired_map_set {K : PySem.W.Frag} {Hd : Hp} {k : Key} {v : V} {r : Sl} (h : SlOk K Hd (some v) r) : ∀ {ws : List (Key × V)} {kvs : List (Key × Sl)}, Paired (PrOk K Hd) ws kvs → Paired (PrOk K Hd) (ws.map fun kv => if kv.1 = k then (kv.1, v) else kv) (kvs.map fun kv => if kv.1 = k then (kv.1, r) else kv)
  | _, _, .nil => .nil
  | (k1, v1) :: ws, (k2, r2) :: kvs, .cons ⟨h1, h2⟩ t => by
    have h1 : k1 = k2 := h1
    subst h1
    rw [List.map_cons, List.map_cons]
    refine .cons ?_ (paired_map_set h t)
    by_cases hb : k1 = k
    · rw [if_pos hb, if_pos hb]; exact ⟨rfl, h⟩
    · rw [if_neg hb, if_neg hb]; exact ⟨rfl, h2⟩
theorem paired_put {K : PySem.W.Frag} {Hd : Hp} {k : Key} {v : V} {r : Sl} (h : SlOk K Hd (some v) r) {ws : List (Key × V)} {kvs : List (Key × Sl)} (t : Paired (PrOk K Hd) ws kvs) : Paired (PrOk K Hd) (putK ws k v) (setK kvs k r) := by
  unfold putK setK
  rw [paired_any t]
  by_cases hb : (kvs.any fun kv => decide (kv.1 = k)) = true
  · rw [if_pos hb, if_pos hb]; exact paired_map_set h t
  · rw [if_neg hb, if_neg hb]; exact paired_append t (.cons ⟨rfl, h⟩ .nil)
theorem kV_int (i : Int) : kV (.inl i) = V.int i := rfl
/-- d[i], d ours -/
theorem de_dget {o i : Expr} {a : Addr} {k : Int} {j : Nat} {kvs : List (Key × Sl)} {r : Sl} (ho : DE X F g o g (.v (.ref a))) (hi : DE X F g i g1 (.d (.int k))) (hj : g1.ow[j]? = some (a, .dk kvs)) (hk : fndK kvs (.inl k) = some r) (hu : X.A.units + 1 < cLine) (hs : NoSl i := by exact fun _ _ => rfl) : DE X F g (.Subscript o i pos) g1 r := by
  refine ⟨hi.dom, fun σ H Q s q => eS_of (pe_dget hu pe_s pe_s hs) (ho.run σ H _ s fun v H1 s1 k1 x1 => hi.run σ H1 _ s1 fun u H2 s2 k2 x2 => ?_)⟩
  have ev : some v = some (V.ref a) := x1
  cases ev
  have x2 : Dt X.K (F.hd g H2) u (.int k) := x2
  cases x2
  obtain ⟨oo, o1, ws, rfl, o2⟩ := s2.own hj
  have := paired_find (k := .inl k) o2
  rw [hk] at this
  obtain ⟨w, h1, h2⟩ := this
  exact ⟨a, w, rfl, .inl ⟨ws, .inl k, .inl o1, rfl, h1.symm⟩, q w H2 s2 (k1.trans k2) (by rw [hd_dom hi.dom] at h2; exact h2)⟩
/-- d.get(k, x), d ours -/
theorem de_dget2 {o e f : Expr} {apos cpos : Pos} {a : Addr} {k : Int} {j : Nat} {kvs : List (Key × Sl)} {r : Sl} (ho : DE X F g o g (.v (.ref a))) (he : DE X F g e g (.d (.int k))) (hf : DE X F g f g r) (hj : g.ow[j]? = some (a, .dk kvs)) (hu : X.A.units + 1 < cLine)
    (m : M2 X o "get" apos e f cpos := by exact ⟨rfl, rfl, rfl, rfl⟩) : DE X F g (.Call (.Attribute o "get" apos) [e, f] [] cpos) g ((fndK kvs (.inl k)).getD r) := by
  refine ⟨rfl, fun σ H Q s q => eS_of (pe_dget2 hu pe_s pe_s pe_s m) (ho.run σ H _ s fun v H1 s1 k1 x1 => ?_)⟩
  have ev : some v = some (V.ref a) := x1
  cases ev
  obtain ⟨oo, o1, ws, rfl, o2⟩ := s1.own hj
  refine ⟨a, rfl, .inl ⟨ws, .inl o1⟩, he.run σ H1 _ s1 fun u H2 s2 k2 x2 => hf.run σ H2 _ s2 fun z H3 s3 k3 x3 => ?_⟩
  have x2 : Dt X.K (F.hd g H2) u (.int k) := x2
  cases x2
  obtain ⟨oo, o1, ws, rfl, o2⟩ := s3.own hj
  refine ⟨valV ws (.inl k), .inl ⟨ws, .inl k, .inl o1, rfl, rfl⟩, ?_⟩
  have := paired_find (k := .inl k) o2
  cases hk : fndK kvs (.inl k) with
  | none =>
    rw [hk] at this q
    have this : valV ws (.inl k) = none := this
    rw [this]
    exact q z H3 s3 (k1.trans (k2.trans k3)) x3
  | some r0 =>
    rw [hk] at this q
    obtain ⟨w, h1, h2⟩ := this
    rw [h1]
    exact q w H3 s3 (k1.trans (k2.trans k3)) h2
/-- d[k] = x, d ours -/
theorem ds_dset {o i : Expr} {tpos : Pos} {a : Addr} {j : Nat} {kvs : List (Key × Sl)} {k : Int} {r : Sl} (he : DE X F g e g1 r) (ho : DE X F g1 o g1 (.v (.ref a))) (hi : DE X F g1 i g2 (.d (.int k))) (hj : g2.ow[j]? = some (a, .dk kvs)) (hz : kvs.length ≤ 1000) (hu : X.A.units + 1 < cLine)
    (kk : DS X F ⟨g2.sl, g2.ow.set j (a, .dk (setK kvs (.inl k) r))⟩ rest z)
    (ha : ∀ v, assign (.Subscript o i tpos) X.env v = (do
      let ov ← holding [v] (eval o X.env)
      let iv ← holding [v, ov] (eval i X.env)
      standAt tpos
      holding [v, ov, iv] (setItem ov iv v)
      release [v, ov, iv] []) := by intro _; rfl)
    (hs : swapsWithSole [.Subscript o i tpos] e pos.line X.env = pure false := by rfl) (hw : swappedStores [.Subscript o i tpos] e X.env = pure none := by rfl) (h1 : (assignEach [.Subscript o i tpos] X.env).map (·.2) = [assign (.Subscript o i tpos) X.env] := by rfl) :
    DS X F g (.Assign [.Subscript o i tpos] e pos :: rest) z := DS.mk fun σ H D s zk => by
  refine uS_of (pss_cons (ps_asg pe_s (pg_sub pe_s pe_s (set_dict hu) ha) hs hw h1) pss_s) (he.run σ H _ s fun v H1 s1 k1 x1 => ho.run σ H1 _ s1 fun ov H2 s2 k2 x2 => hi.run σ H2 _ s2 fun iv H3 s3 k3 x3 => ?_)
  have ev : some ov = some (V.ref a) := x2
  cases ev
  have x3' : Dt X.K _ iv (.int k) := x3
  cases x3'
  rw [hd_dom he.dom, hd_dom he.dom] at k2 k3
  obtain ⟨u, u1, ws, rfl, u2⟩ := s3.own hj
  refine ⟨a, _, rfl, .inl ⟨ws, .inl k, u1, rfl, by rw [paired_length u2]; exact Nat.lt_of_le_of_lt hz (by decide), rfl⟩, ?_⟩
  have d3 : g2.dom = g.dom := hi.dom.trans he.dom
  have pd : a ∈ F.S ++ g2.dom := List.mem_append_right _ (mem_dom hj)
  have eh : F.hd g2 (upd H3 a (.dK (putK ws (.inl k) v))) = F.hd g2 H3 := hid_upd_in pd
  have xv : SlOk X.K (F.hd g2 H3) (some v) r := by
    rw [hd_dom d3]
    exact slOk_mono (k2.trans k3) x1
  obtain ⟨s4, _⟩ := s3.put (H' := upd H3 a (.dK (putK ws (.inl k) v))) (o' := .dK (putK ws (.inl k) v)) hj (fun b o nb e => by rw [upd_ne nb]; exact e) upd_same (od' := .dk (setK kvs (.inl k) r)) ⟨_, rfl, by rw [eh]; exact paired_put xv u2⟩
  exact kk σ _ D s4 zk
/-- sorted(d), d ours, its keys numbers -/
theorem dn_sortedD {x : Expr} {a : Addr} {j : Nat} {kvs : List (Key × Sl)} {ks ys : List Int} (hm : X.mg "sorted" = none) (ho : DE X F g x g (.v (.ref a))) (hj : g.ow[j]? = some (a, .dk kvs)) (hk : kvs.map (·.1) = ks.map Sum.inl) (hl : ks.length < 64) (hy : ∀ zs : List Int, zs.Perm ks → zs.Pairwise (· ≤ ·) → zs = ys) (hc : X.calm = true := by rfl) (hg : Gl X "sorted" := by rfl)
    (he : starEach (x :: []) X.env = (false, eval x X.env) :: starEach [] X.env := by rfl) (hpl : (backTo pos (starEach [] X.env)).any (·.1) = false := by rfl) : DN X F g (.Call (.Name "sorted" p) [x] [] pos) g (.lst ((ys.map .int).map .d)) := by
  refine ⟨rfl, fun σ H Q s q => eS_of (pe_callB (call_sortedDI hc) hg hm (by decide +kernel) (pa_cons pe_s pa_nil he) (by decide) (by decide) he hpl) (ho.run σ H _ s fun v H1 s1 k1 x1 => ?_)⟩
  have ev : some v = some (V.ref a) := x1
  cases ev
  obtain ⟨oo, o1, ws, rfl, o2⟩ := s1.own hj
  have hw : ws.map (·.1) = ks.map Sum.inl := by
    rw [← hk]
    clear hk o1 hj
    induction o2 with
    | nil => rfl
    | cons h t ih => rw [List.map_cons, List.map_cons, ih, h.1]
  refine ⟨a, ws, ks, rfl, .inl o1, hw, hl, fun zs p hp1 hp2 hp => ?_⟩
  rw [hy zs hp1 hp2]
  exact dn_at (od := .lst ((ys.map .int).map .d)) (o := .lst (ys.map V.int)) rfl s1 k1 p hp ⟨_, rfl, paired_of_dp (dpAll_of_ints ys)⟩ q
end
end DL
end L2
set_option Elab.async false
set_option linter.all false
set_option maxRecDepth 100000
set_option maxHeartbeats 4000000
/-! list(d.values()), d ours -/
namespace L2
namespace DL
open PySem PySem.Spec PyProof.Rows PySem.SeqAt
def tListVals (te : TE) : TE := fun σ H Q => te σ H fun x H1 => ∃ (d : Addr) (kvs : List (Key × V)), x = .ref d ∧ H1 d = some (.dK kvs) ∧ ∀ q, H1 q = none → Q (.ref q) (upd H1 q (.lst (kvs.map (·.2))))
section
variable {X : Cx} {e : Expr} {te : TE} {p apos cpos pos : Pos}
theorem vals_items {kvs : List (Key × V)} {vs : List (Key × Value)} (h : KV kvs vs) : ∀ {acc : List Value}, acc.length = vs.length → (∀ (j : Nat) (v : Value), acc[j]? = some v → ∃ k : Key, vs[j]? = some (k, v)) → Vals (kvs.map (·.2)) acc := by
  induction h with
  | nil => intro acc hl _; have : acc = [] := List.length_eq_zero_iff.mp hl; subst this; exact .nil
  | cons a t ih =>
    intro acc hl hi
    cases acc with
    | nil => cases hl
    | cons u acc =>
      obtain ⟨k, hk⟩ := hi 0 u rfl
      have hk := Option.some.inj hk
      refine .cons ?_ (ih (by simpa using hl) fun j v hj => hi (j + 1) v hj)
      rw [show u = _ from (congrArg Prod.snd hk).symm]
      exact a.2
theorem pe_listVals (hc : X.calm = true) (he : PE X e te) (hg : Gl X "list") (hm : X.mg "list" = none) (hv : bootBuiltins "list" = some (.type "list")) (hbase : attributeBase e "values" X.env (eval e X.env) = eval e X.env := by rfl) (hline : (apos.endLine == cpos.line) = true := by rfl)
    (hs : starEach [.Call (.Attribute e "values" apos) [] [] cpos] X.env = (false, eval (.Call (.Attribute e "values" apos) [] [] cpos) X.env) :: starEach [] X.env := by rfl) :
    PE X (.Call (.Name "list" p) [.Call (.Attribute e "values" apos) [] [] cpos] [] pos) (tListVals te) := by
  refine ⟨fun pins s σ H Q I hq => ?_⟩
  refine wpAny_Call_Name_kw (ld_blt I hg hm hv ?_)
  refine PyProof.Rows.callWith_type1 ?_ hs rfl
  rw [hs]
  show wpAny _ _ (spliced ((false, eval (.Call (.Attribute e "values" apos) [] [] cpos) X.env) :: backTo pos (starEach [] X.env))) _ _ s
  refine Calls.spliced_cons ?_
  refine wpAny_Call_method (T := "dict") (id := "dict.values") hbase rfl hline F.plainAttrs_dict F.slot_dict_values F.type_dict_values (thn (he.run pins s σ H _ I hq) fun u s1 ⟨x, H1, I1, rx, d, kvs, ex, hd, q⟩ => ?_)
  subst ex
  obtain rfl : u = Value.ref d := rx
  obtain ⟨hz, hs0, vs, kv, hdo⟩ := I1.hok d _ hd
  obtain ⟨ep, hat⟩ := hdo.dictAt
  have lk : kvs.length = vs.length := Paired.length kv
  have I2 : Inv X pins σ H1 { s1 with heap := s1.heap.push { cls := .type "dict_values", data := .fields #[.ref d] } } := I1.kept (t' := s1.toks) fun b ob q => Heap.get?_push_of_some _ q
  refine ⟨hdo.typeIs, hdo.mapOf.noDict, ?_⟩
  show wpAny _ _ (callWith cpos (.builtin "dict.values") [.ref d] [] []) _ X.xe s1
  refine method_meetsIn F.slot_dict_values F.entry_dict_values rfl (PySem.evalArgs_none ⟨rfl, hdo.typeIs, F.args_dict_values_1 _, _, meets_dict_values (mixKind X.prog X.w) d hs0, ⟨vs, hdo⟩, ?_⟩)
  refine Calls.spliced_nil ?_
  refine PySem.W.kdl_call (PySem.W.kdl_values (knd := mixKind X.prog X.w) (kvs := vs) (ep := ep)) (I1.ok.hd hc) ⟨⟨_, Heap.get?_push_size _ rfl, rfl, rfl⟩, hat.push _⟩ (by omega) fun h' tk acc c hk hS hacc => ?_
  have fr : H1 (s1.heap.push { cls := .type "dict_values", data := .fields #[.ref d] }).objs.size = none := I2.hok.fresh (Nat.le_refl _)
  refine ⟨.ref _, _, I2.laid (t' := tk) (a := (s1.heap.push { cls := .type "dict_values", data := .fields #[.ref d] }).objs.size) (o := .lst (kvs.map (·.2))) (h' := h') hk (Nat.le_refl _) ⟨by rw [List.length_map]; exact hz, acc.toList, c, ?_, ?_⟩, rfl, q _ fr⟩
  · refine vals_items kv ?_ fun j v hj => ?_
    · rw [Array.length_toList]; exact hacc.1
    · exact hacc.2 j v (by simpa using hj)
  · rw [Array.toArray_toList]
    exact hS
end
section
variable {X : Cx} {F : Fm} {g : G} {e : Expr} {p apos cpos pos : Pos}
theorem paired_vals {K : PySem.W.Frag} {Hd : Hp} : ∀ {ws : List (Key × V)} {kvs : List (Key × Sl)}, Paired (PrOk K Hd) ws kvs → Paired (ItOk K Hd) (ws.map (·.2)) (kvs.map (·.2))
  | _, _, .nil => .nil
  | _, _, .cons h t => .cons h.2 (paired_vals t)
/-- list(d.values()), d ours -/
theorem dn_listVals {a : Addr} {j : Nat} {kvs : List (Key × Sl)} (hm : X.mg "list" = none) (ho : DE X F g e g (.v (.ref a))) (hj : g.ow[j]? = some (a, .dk kvs)) (hc : X.calm = true := by rfl) (hg : Gl X "list" := by rfl) (hv : bootBuiltins "list" = some (.type "list") := by decide +kernel) (hbase : attributeBase e "values" X.env (eval e X.env) = eval e X.env := by rfl) (hline : (apos.endLine == cpos.line) = true := by rfl)
    (hs : starEach [.Call (.Attribute e "values" apos) [] [] cpos] X.env = (false, eval (.Call (.Attribute e "values" apos) [] [] cpos) X.env) :: starEach [] X.env := by rfl) : DN X F g (.Call (.Name "list" p) [.Call (.Attribute e "values" apos) [] [] cpos] [] pos) g (.lst (kvs.map (·.2))) := by
  refine ⟨rfl, fun σ H Q s q => eS_of (pe_listVals hc pe_s hg hm hv hbase hline hs) (ho.run σ H _ s fun v H1 s1 k1 x1 => ?_)⟩
  have ev : some v = some (V.ref a) := x1
  cases ev
  obtain ⟨oo, o1, ws, rfl, o2⟩ := s1.own hj
  refine ⟨a, ws, rfl, o1, fun p hp => dn_at (od := .lst (kvs.map (·.2))) (o := .lst (ws.map (·.2))) rfl s1 k1 p hp ⟨_, rfl, paired_vals o2⟩ q⟩
end
end DL
end L2
namespace L2
namespace DL
open PySem PySem.Spec PyProof.Rows
section
variable {X : Cx} {F : Fm} {g : G} {v : Expr} {pos kp : Pos} {r : Sl}
/-- {k: v}, k a number that is written -/
theorem dn_disp1 {k : Int} {jj} (hv : ∀ p, DE X F ⟨g.sl, g.ow ++ [(p, .dk [])]⟩ v ⟨g.sl, g.ow ++ [(p, .dk [])]⟩ r) : DN X F g (.Dict [some (.Constant (.int k) jj kp)] [v] pos) g (.dk [(.inl k, r)]) := by
  refine ⟨rfl, fun σ H Q s q => eS_of (pe_disp (pps_cons pe_int pe_s pps_nil) rfl rfl (by simp) (Nat.le_of_ble_eq_true rfl)) fun p hp => ?_⟩
  have hpM := s.newM hp
  have hpS := s.newOut hp
  have hp0 := s.fresh0 hp
  have s1 := s.newOwn (p := p) (o := .dK []) (od := .dk []) hp ⟨[], rfl, .nil⟩
  refine (hv p).run σ (upd H p (.dK [])) _ s1 fun u H2 s2 k2 x2 => ?_
  have hj : (g.ow ++ [(p, OD.dk [])])[g.ow.length]? = some (p, .dk []) := by simp
  obtain ⟨oo, o1, ws, rfl, o2⟩ := s2.own hj
  have o1 : H2 p = some (.dK ws) := o1
  cases o2
  refine ⟨o1, [(.inl k, u)], rfl, Nat.le_of_ble_eq_true rfl, ?_⟩
  have em : mergeK [] [((Sum.inl k : Key), u)] = [((Sum.inl k : Key), u)] := rfl
  rw [em]
  have pd : p ∈ F.S ++ G.dom ⟨g.sl, g.ow ++ [(p, OD.dk [])]⟩ := List.mem_append_right _ (mem_dom hj)
  have eh : F.hd ⟨g.sl, g.ow ++ [(p, OD.dk [])]⟩ (upd H2 p (.dK [((Sum.inl k : Key), u)])) = F.hd ⟨g.sl, g.ow ++ [(p, OD.dk [])]⟩ H2 := hid_upd_in pd
  obtain ⟨s3, k3⟩ := s2.put (H' := upd H2 p (.dK [((Sum.inl k : Key), u)])) (o' := .dK [((Sum.inl k : Key), u)]) hj (fun b o n e => by rw [upd_ne n]; exact e) upd_same (od' := .dk [(.inl k, r)]) ⟨_, rfl, by rw [eh]; exact .cons ⟨rfl, x2⟩ .nil⟩
  have es : (g.ow ++ [(p, OD.dk [])]).set g.ow.length (p, OD.dk [(.inl k, r)]) = g.ow ++ [(p, OD.dk [(.inl k, r)])] := by simp
  have s3 : Sat X.K F ⟨g.sl, (g.ow ++ [(p, OD.dk [])]).set g.ow.length (p, OD.dk [(.inl k, r)])⟩ σ (upd H2 p (.dK [((Sum.inl k : Key), u)])) := s3
  rw [es] at s3
  have sh : Same (F.hd g H) (F.hd ⟨g.sl, g.ow ++ [(p, OD.dk [])]⟩ (upd H p (.dK []))) := by
    rw [hd_app]
    exact hid_mono (same_new hp) fun a m => by
      rcases List.mem_cons.mp m with m | m
      · exact .inr (m ▸ hp)
      · exact .inl m
  refine q p _ hpM hpS hp0 s3 ?_
  have := sh.trans (k2.trans k3)
  rw [hd_app] at this
  exact this
end
end DL
end L2
set_option Elab.async false
set_option linter.all false
set_option maxRecDepth 100000
set_option maxHeartbeats 4000000
/-! sorted(xs), xs any list of data -/
namespace L2
namespace DL
open PySem PySem.Spec PyProof.Rows PySem.SeqAt
open PySem.W (dataLt dataLe AllAlike Sortable EachIs)
def rSortD (X : Cx) : List V → Hp → VK → Prop := fun vs H Q => ∃ (a : Addr) (ws : List V) (ds : List PyData), vs = [V.ref a] ∧ SqL X.K H a ws ∧ DpAll X.K H ws ds ∧ AllAlike ds ∧ Sortable ds ∧ (∀ d ∈ ds, X.A.units + 2 + d.depth < cLine) ∧
  ∀ (bs : List (V × PyData)) (p : Addr), bs.Perm (ws.zip ds) → bs.map (·.2) = ds.mergeSort (dataLe false id) → H p = none → Q (.ref p) (upd H p (.lst (bs.map (·.1))))
theorem each_zip : ∀ {ws : List V} {us : List Value} {ds : List PyData}, Vals ws us → ws.length = ds.length → EachIs (fun (u : Value) (b : V × PyData) => RelV b.1 u) us (ws.zip ds)
  | [], _, [], .nil, _ => .nil
  | _ :: _, _, d :: ds, .cons r t, h => .cons r (each_zip t (by simpa using h))
theorem each_reads {h : Heap} : ∀ {us : List Value} {bs : List (V × PyData)} {as : List Addr}, ReadsAll h us (bs.map (·.2)) as → EachIs (fun (u : Value) (b : V × PyData) => ∃ as, Reads h u b.2 as) us bs := fun r => PySem.W.readsAll_each (fun b : V × PyData => b.2) r
theorem vals_each : ∀ {us : List Value} {bs : List (V × PyData)}, EachIs (fun (u : Value) (b : V × PyData) => RelV b.1 u) us bs → Vals (bs.map (·.1)) us
  | _, _, .nil => .nil
  | _, _, .cons h t => .cons h (vals_each t)
theorem dpAll_len {K : PySem.W.Frag} {H : Hp} : ∀ {ws : List V} {ds : List PyData}, DpAll K H ws ds → ws.length = ds.length
  | _, _, .nil => rfl
  | _, _, .cons _ t => congrArg (· + 1) (dpAll_len t)
theorem cr_sortD {X : Cx} : CallR X (.builtin "sorted") (rSortD X) := by
  intro pins s σ H vs us Q I r h
  obtain ⟨a, ws, ds, rfl, h1, h2, ha, hk, hu, q⟩ := h
  obtain ⟨its, rv, hl, hz⟩ := I.list h1
  obtain ⟨as, h4⟩ := Dp.readsAll I ds ws its h2 rv
  rw [Vals.ref1 r]
  have len := dpAll_len h2
  have e2 : (ws.zip ds).map (·.2) = ds := List.map_snd_zip (by omega)
  refine PySem.W.sorted_data (vs := its) (bs := ws.zip ds) (enc := fun b : V × PyData => b.2) (R := fun u b => RelV b.1 u) hl.isList (each_zip rv len) (each_reads (by rw [e2]; exact h4)) (by rw [e2]; exact ha) (by rw [e2]; exact hk) (by rw [List.length_zip, len, Nat.min_self, ← len]; exact hz) (fun b hb => hu _ (List.of_mem_zip (show (b.1, b.2) ∈ _ from hb)).2) fun out h5 h6 => ?_
  obtain ⟨ep, he'⟩ := PyProof.Rows.sortedAll_at s.heap its out.toArray
  have hp := List.mergeSort_perm (ws.zip ds) (dataLe false fun b : V × PyData => b.2)
  have hlen : (((ws.zip ds).mergeSort (dataLe false fun b : V × PyData => b.2)).map (·.1)).length ≤ sizeLine := by
    rw [List.length_map, hp.length_eq, List.length_zip, len, Nat.min_self, ← len]; exact hz
  refine ⟨.ref _, upd H (s.heap.objs.size + 1) (.lst (((ws.zip ds).mergeSort (dataLe false fun b : V × PyData => b.2)).map (·.1))), I.laid (t' := s.toks) (fun _ _ => PyProof.Rows.sortedAll_old) (Nat.le_succ _) ⟨hlen, out, ep, vals_each h6, he'⟩, rfl, q _ _ hp ?_ (I.hok.fresh (Nat.le_succ _))⟩
  have sm := PySem.W.sort_maps (r := dataLe false fun b : V × PyData => b.2) (s := dataLe false id) (fun b : V × PyData => b.2) (l := ws.zip ds) (fun _ _ _ _ => rfl)
  rw [e2] at sm
  exact sm
section
variable {X : Cx} {F : Fm} {g g1 : G} {e : Expr} {pos p : Pos}
theorem dtAll_zip {K : PySem.W.Frag} {H : Hp} : ∀ {ws : List V} {ds : List PyData}, DtAll K H ws ds → ∀ b ∈ ws.zip ds, Dt K H b.1 b.2
  | [], [], .nil, b, hb => absurd hb (by simp)
  | w :: ws, d :: ds, .cons h t, b, hb => by
    rw [List.zip_cons_cons] at hb
    rcases List.mem_cons.mp hb with rfl | hb
    · exact h
    · exact dtAll_zip t b hb
theorem dtAll_maps {K : PySem.W.Frag} {H : Hp} : ∀ {bs : List (V × PyData)}, (∀ b ∈ bs, Dt K H b.1 b.2) → DtAll K H (bs.map (·.1)) (bs.map (·.2))
  | [], _ => .nil
  | b :: bs, h => .cons (h b List.mem_cons_self) (dtAll_maps fun c hc => h c (List.mem_cons_of_mem _ hc))
/-- sorted(xs): a new list of ours -/
theorem dn_sortL {ds : List PyData} (hm : X.mg "sorted" = none) (ha : DE X F g e g1 (.d (.list ds))) (hal : AllAlike ds) (hk : Sortable ds) (hu : ∀ d ∈ ds, X.A.units + 2 + d.depth < cLine) (hg : Gl X "sorted" := by rfl)
    (he : starEach (e :: []) X.env = (false, eval e X.env) :: starEach [] X.env := by rfl) (hpl : (backTo pos (starEach [] X.env)).any (·.1) = false := by rfl) : DN X F g (.Call (.Name "sorted" p) [e] [] pos) g1 (.lst ((ds.mergeSort (dataLe false id)).map .d)) := by
  refine ⟨ha.dom, fun σ H Q s q => eS_of (pe_callB cr_sortD hg hm (by decide +kernel) (pa_cons pe_s pa_nil he) (by decide) (by decide) he hpl) (ha.run σ H _ s fun v H1 s1 k1 x1 => ?_)⟩
  have x1 : Dt X.K (F.hd g H1) v (.list ds) := x1
  cases x1 with
  | lst b1 b2 =>
    refine ⟨_, _, _, rfl, SqL.of (unhid _ _ b1), dt_dpAll (dpAll_mono unhid b2), hal, hk, hu, fun bs p hp1 hp2 hp => ?_⟩
    refine dn_at (od := .lst ((ds.mergeSort (dataLe false id)).map .d)) (o := .lst (bs.map (·.1))) ha.dom s1 k1 p hp ⟨_, rfl, ?_⟩ q
    rw [← hp2, hd_dom ha.dom]
    exact paired_of_dp (dtAll_maps fun b hb => dtAll_zip b2 b (hp1.mem_iff.mp hb))
end
end DL
end L2
set_option Elab.async false
set_option linter.all false
set_option maxRecDepth 100000
set_option maxHeartbeats 4000000
/-! a frame that keeps nothing, a told list taken as ours -/
namespace L2
namespace DL
open PySem PySem.Spec PyProof.Rows
/-- the frame that keeps nothing of what was -/
abbrev F00 : Fm := ⟨[], fun _ => none, []⟩
theorem Sat.bare {K : PySem.W.Frag} {F : Fm} {g : G} {σ : St} {H : Hp} (s : Sat K F g σ H) (hS : F.S = []) : Sat K F00 g σ H := by
  have e : ∀ H, F.hd g H = F00.hd g H := fun H => by show hid (F.S ++ g.dom) H = hid ([] ++ g.dom) H; rw [hS]
  refine ⟨by have := s.sl; rw [e] at this; exact this, fun p hp => by have := s.ow p hp; rw [e] at this; exact this, s.nd, fun b o q _ => (nomatch q), fun a _ => .inl rfl, fun a h => absurd h (by simp), fun a h => absurd h (by simp)⟩
section
variable {X : Cx} {g g1 : G} {tg iter a : Expr} {pos : Pos} {rest body : List Stmt} {z : Z}
/-- range(j), its walk leaning on nothing -/
structure DI0 (X : Cx) (g : G) (tg iter : Expr) (g' : G) (n : Nat) : Prop where
  dom : g'.dom = g.dom
  run : ∀ σ H (R : It → Hp → Prop), Sat X.K F00 g σ H → (∀ J H', Sat X.K F00 g' σ H' → (∀ Hd, JOk X.K J Hd (upTo 0 n)) → R J H') → iS X tg iter σ H R
theorem di0_range {p : Pos} {j : Int} (hm : X.mg "range" = none) (h : DE X F00 g a g1 (.d (.int j))) (hj : -(2 ^ 62) ≤ j ∧ j < 2 ^ 62) (hg : Gl X "range" := by rfl) (hs : starEach [a] X.env = [(false, eval a X.env)] := by rfl) : DI0 X g tg (.Call (.Name "range" p) [a] [] pos) g1 j.toNat :=
  ⟨h.dom, fun σ H R s q => iS_of (pi_range1 hg hm (pa_cons pe_s pa_nil hs) hs) (h.run σ H _ s fun v H1 s1 k1 x1 => by cases x1; exact ⟨j, rfl, hj.1, hj.2, q _ H1 s1 fun Hd => jok_range⟩)⟩
/-- for in range, nothing kept but what the body tells -/
theorem ds_for0 {n : Nat} (I : Nat → G → Prop) (hp : PassesOwn (model X.prog X.w) X.A X.env X.xe) (hc : X.calm = true) (hi : DI0 X g tg iter g1 n) (h0 : I 0 g1)
    (hb : ∀ i gi, i < n → I i gi → ∃ g2 js, DG X F00 gi tg (.d (.int (i : Nat))) g2 js ∧ DS X F00 g2 body ⟨I (i + 1), z.rt, fun gb => DS X F00 gb rest z, I (i + 1), z.ex⟩) (hk : ∀ gn, I n gn → DS X F00 gn rest z)
    (hs : ∀ x, foldedSetIterable iter X.env x = pure x := by intro _; rfl) : DS X F00 g (.For tg iter body [] pos :: rest) z := DS.mk fun σ H D s zk => by
  refine uS_of (pss_cons (ps_for hp hc pi_s pg_s pss_s hs) pss_s) (hi.run σ H _ s fun J H1 s1 j1 => ?_)
  refine ⟨fun i m σ' H' => m + i = n ∧ ∃ gi, I i gi ∧ Sat X.K F00 gi σ' H', ⟨n, by omega, g1, h0, s1⟩, fun i m σ' H' ⟨hm, gi, Ii, si⟩ => ?_⟩
  have inT : ∀ a ∈ gi.dom, H' a ≠ none := fun a m => si.owIn m
  have len : (upTo 0 n).length = n := upTo_length 0 n
  by_cases e : i < n
  · have gt : (upTo 0 n)[i]? = some (.int (i : Nat)) := by
      unfold upTo
      rw [List.getElem?_map, List.getElem?_range e]
      simp
    obtain ⟨go, yl⟩ := (j1 (hid gi.dom H')).go i H' gi.dom _ (Same.refl _) inT gt
    refine .inr ⟨go, fun σ2 H2 => ∃ gi, I (i + 1) gi ∧ Sat X.K F00 gi σ2 H2, fun σ2 H2 ⟨g', I', s'⟩ => ⟨m - 1, by omega, by omega, g', I', s'⟩, fun x H2 hy => ?_⟩
    obtain ⟨e2, x2⟩ := yl x H2 hy
    obtain ⟨gt, js, hg, hbody⟩ := hb i gi e Ii
    have s2 := si.grow e2
    refine hg.run σ' H2 x _ s2 x2 fun σ3 s3 _ => hbody σ3 H2 _ s3 ?_
    exact ⟨fun g' σ4 H4 q s4 => ⟨g', q, s4⟩, fun g' r σ4 v H4 q s4 k4 => zk.rt g' r σ4 v H4 q s4 k4, fun g' σ4 H4 q s4 => q σ4 H4 D s4 zk, fun g' σ4 H4 q s4 => ⟨g', q, s4⟩, fun g' C o σ4 d H4 q s4 k => zk.xx g' C o σ4 d H4 q s4 k⟩
  · have ei : i = n := by omega
    subst ei
    exact .inl ⟨(j1 (hid gi.dom H')).stop _ H' gi.dom (Same.refl _) (by rw [len]; exact Nat.le_refl _), hk gi Ii σ' H' D si zk⟩
/-! what doesn't lean on a list of such ints -/
mutual
def noL (D : List PyData) : PyData → Prop
  | .list xs => xs ≠ D ∧ noLs D xs
  | .tuple xs => noLs D xs
  | _ => True
def noLs (D : List PyData) : List PyData → Prop
  | [] => True
  | x :: xs => noL D x ∧ noLs D xs
end
theorem noLs_flat {D : List PyData} : ∀ {xs : List PyData}, xs.all flatD = true → noLs D xs
  | [], _ => by simp [noLs]
  | x :: xs, h => by
    rw [List.all_cons, Bool.and_eq_true] at h
    simp only [noLs]
    refine ⟨?_, noLs_flat h.2⟩
    cases x <;> first | (simp [flatD] at h; done) | simp [noL]
theorem noLs_map {α : Type} {D : List PyData} {f : α → PyData} : ∀ {xs : List α}, (∀ x ∈ xs, noL D (f x)) → noLs D (xs.map f)
  | [], _ => by simp [noLs]
  | x :: xs, h => by
    rw [List.map_cons]
    simp only [noLs]
    exact ⟨h x List.mem_cons_self, noLs_map fun y hy => h y (List.mem_cons_of_mem _ hy)⟩
theorem dt_ints {K : PySem.W.Frag} {H : Hp} : ∀ {ns : List Int} {ds : List PyData}, DtAll K H (ns.map V.int) ds → ds = ns.map .int
  | [], [], _ => rfl
  | n :: ns, d :: ds, .cons h t => by
    cases h
    rw [dt_ints t]; rfl
mutual
theorem dt_but {K : PySem.W.Frag} {H H' : Hp} {p : Addr} {ns : List Int} (hp : H p = some (.lst (ns.map V.int))) (k : ∀ a o, a ≠ p → H a = some o → H' a = some o) : ∀ {v : V} {d : PyData}, Dt K H v d → noL (ns.map .int) d → Dt K H' v d
  | _, _, .non, _ => .non
  | _, _, .bl b, _ => .bl b
  | _, _, .int i, _ => .int i
  | _, _, .str x, _ => .str x
  | _, _, .lst (a := a) (xs := xs) h1 h2, q => by
    simp only [noL] at q
    refine .lst (k a _ (fun e => ?_) h1) (dtAll_but hp k h2 q.2)
    subst e
    rw [hp] at h1
    cases h1
    exact q.1 (dt_ints h2)
  | _, _, .tup (a := a) (xs := xs) h1 h2, q => by
    simp only [noL] at q
    refine .tup ?_ (dtAll_but hp k h2 q)
    rcases h1 with h1 | h1
    · refine .inl ?_
      rcases h1 with h1 | ⟨o, h1⟩
      · exact .inl (k a _ (fun e => by subst e; rw [hp] at h1; cases h1) h1)
      · exact .inr ⟨o, k a _ (fun e => by subst e; rw [hp] at h1; cases h1) h1⟩
    · exact .inr h1
theorem dtAll_but {K : PySem.W.Frag} {H H' : Hp} {p : Addr} {ns : List Int} (hp : H p = some (.lst (ns.map V.int))) (k : ∀ a o, a ≠ p → H a = some o → H' a = some o) : ∀ {vs : List V} {ds : List PyData}, DtAll K H vs ds → noLs (ns.map .int) ds → DtAll K H' vs ds
  | [], [], .nil, _ => .nil
  | _ :: _, _ :: _, .cons h t, q => by
    simp only [noLs] at q
    exact .cons (dt_but hp k h q.1) (dtAll_but hp k t q.2)
end
/-- a slot that leans on no such list -/
def noSl (D : List PyData) : Sl → Prop
  | .d d => noL D d
  | .v _ => True
  | .u => True
  | .p _ _ => False
def noOD (D : List PyData) : OD → Prop
  | .lst xs => ∀ x ∈ xs, noSl D x
  | _ => False
theorem slOk_but {K : PySem.W.Frag} {H H' : Hp} {p : Addr} {ns : List Int} (hp : H p = some (.lst (ns.map V.int))) (k : ∀ a o, a ≠ p → H a = some o → H' a = some o) : ∀ {o : Option V} {r : Sl}, SlOk K H o r → noSl (ns.map .int) r → SlOk K H' o r := by
  intro o r h q
  cases r with
  | d d =>
    cases o with
    | none => exact h.elim
    | some v => exact dt_but hp k h q
  | v x => exact h
  | u => cases o <;> trivial
  | p φ m => exact q.elim
theorem paired_imp {α β : Type} {R R' : α → β → Prop} : ∀ {xs : List α} {ys : List β}, Paired R xs ys → (∀ a b, b ∈ ys → R a b → R' a b) → Paired R' xs ys
  | _, _, .nil, _ => .nil
  | _, _, .cons h t, k => .cons (k _ _ List.mem_cons_self h) (paired_imp t fun a b hb => k a b (List.mem_cons_of_mem _ hb))
/-- a told list of ints is ours from now on, where nothing else that is known leans on such a list -/
theorem ds_adopt (i : Nat) {ns : List Int} (hs : g.sl[i]? = some (.d (.list (ns.map .int)))) (hsl : ∀ r ∈ g.sl.set i .u, noSl (ns.map .int) r) (how : ∀ p ∈ g.ow, noOD (ns.map .int) p.2)
    (k : ∀ p, DS X F00 ⟨g.sl.set i (.v (.ref p)), g.ow ++ [(p, intsO ns)]⟩ rest z) : DS X F00 g rest z := DS.mk fun σ H D s zk => by
  obtain ⟨o, h1, h2⟩ := sat_slot s hs
  cases o with
  | none => exact h2.elim
  | some v =>
  have h2 : Dt X.K (F00.hd g H) v (.list (ns.map .int)) := h2
  cases h2 with
  | lst b1 b2 =>
  rename_i p xs
  have e := dpAll_ints b2
  subst e
  obtain ⟨pn, pH⟩ := hid_some b1
  have pn : p ∉ g.dom := fun m => pn (List.mem_append_right _ m)
  have kk : ∀ a o, a ≠ p → F00.hd g H a = some o → hid ([] ++ (g.dom ++ [p])) H a = some o := fun a o ne q => by
    obtain ⟨q1, q2⟩ := hid_some q
    refine hid_of (fun m => ?_) q2
    rw [List.nil_append] at m
    rcases List.mem_append.mp m with m | m
    · exact q1 (List.mem_append_right _ m)
    · exact ne (List.mem_singleton.mp m)
  have dm : ∀ sl, G.dom ⟨sl, g.ow ++ [(p, intsO ns)]⟩ = g.dom ++ [p] := fun sl => by simp [G.dom]
  refine k p σ H D ?_ zk
  have eh : F00.hd ⟨g.sl.set i (.v (.ref p)), g.ow ++ [(p, intsO ns)]⟩ H = hid ([] ++ (g.dom ++ [p])) H := by show hid ([] ++ G.dom _) H = _; rw [dm]
  refine ⟨?_, fun y hy => ?_, ?_, fun b o q _ => (nomatch q), fun a _ => .inl rfl, fun a h => absurd h (by simp), fun a h => absurd h (by simp)⟩
  · rw [eh]
    have h0 : Paired (SlOk X.K (F00.hd g H)) σ (g.sl.set i .u) := by
      have eσ : σ = σ.set i (some (V.ref p)) := by
        obtain ⟨hlt, he⟩ := List.getElem?_eq_some_iff.mp h1
        rw [← he, List.set_getElem_self]
      rw [eσ]
      exact paired_set (by show SlOk X.K _ (some (V.ref p)) .u; trivial) i s.sl
    have h3 : Paired (SlOk X.K (hid ([] ++ (g.dom ++ [p])) H)) σ (g.sl.set i .u) := paired_imp h0 fun a r hr q => slOk_but b1 kk q (hsl r hr)
    have eσ : σ = σ.set i (some (V.ref p)) := by
      obtain ⟨hlt, he⟩ := List.getElem?_eq_some_iff.mp h1
      rw [← he, List.set_getElem_self]
    have e2 : g.sl.set i (.v (.ref p)) = (g.sl.set i .u).set i (.v (.ref p)) := by rw [List.set_set]
    rw [eσ, e2]
    exact paired_set (show SlOk X.K _ (some (V.ref p)) (.v (.ref p)) from rfl) i h3
  · rw [eh]
    rcases List.mem_append.mp hy with hy | hy
    · obtain ⟨u, a1, a2⟩ := s.ow y hy
      refine ⟨u, a1, ?_⟩
      have hw := how y hy
      obtain ⟨ya, yo⟩ := y
      cases yo with
      | lst ls =>
        obtain ⟨vs, e, pr⟩ := a2
        exact ⟨vs, e, paired_imp pr fun a r hr q => slOk_but b1 kk q (hw r hr)⟩
      | _ => exact hw.elim
    · rw [List.mem_singleton] at hy
      subst hy
      exact ⟨_, pH, ints_of ns⟩
  · rw [dm]
    exact List.nodup_append.mpr ⟨s.nd, by simp, fun a ha b hb e => pn (by rw [List.mem_singleton] at hb; rw [← hb, ← e]; exact ha)⟩
theorem noOD_ints {D : List PyData} (l : List Int) : noOD D (intsO l) := fun x hx => by
  obtain ⟨d, hd, rfl⟩ := List.mem_map.mp hx
  obtain ⟨n, _, rfl⟩ := List.mem_map.mp hd
  simp [noSl, noL]
end
end DL
end L2
set_option Elab.async false
set_option linter.all false
set_option maxRecDepth 100000
set_option maxHeartbeats 4000000
/-! plain: the fewest free cells, as the program finds them -/
namespace L2
namespace DL
open PySem PySem.Spec PyProof.Rows
open PySem.W (dataLt)
abbrev Mo := Int × List Int
abbrev KD := List (Int × Mo)
def moreD (x : Mo) : PyData := .tuple [.int x.1, .list (x.2.map .int)]
def encKD (kd : KD) : List (Key × Sl) := kd.map fun e => (.inl e.1, .d (moreD e.2))
def kfnd (kd : KD) (k : Int) : Option Mo := (kd.find? fun e => decide (e.1 = k)).map (·.2)
def kset (kd : KD) (k : Int) (v : Mo) : KD := if (kd.any fun e => decide (e.1 = k)) = true then kd.map (fun e => if e.1 = k then (e.1, v) else e) else kd ++ [(k, v)]
theorem dec_inl {a b : Int} : decide ((Sum.inl a : Key) = .inl b) = decide (a = b) := by
  rw [Bool.eq_iff_iff, decide_eq_true_iff, decide_eq_true_iff]
  exact ⟨fun e => Sum.inl.inj e, fun e => by rw [e]⟩
theorem fnd_enc (kd : KD) (k : Int) : fndK (encKD kd) (.inl k) = (kfnd kd k).map fun x => .d (moreD x) := by
  unfold fndK kfnd encKD
  induction kd with
  | nil => rfl
  | cons e kd ih =>
    rw [List.map_cons]
    by_cases h : e.1 = k
    · rw [List.find?_cons_of_pos (by simpa using h), List.find?_cons_of_pos (by simpa using h)]
      rfl
    · rw [List.find?_cons_of_neg (by rw [dec_inl]; simpa using h), List.find?_cons_of_neg (by simpa using h)]
      exact ih
theorem any_enc (kd : KD) (k : Int) : ((encKD kd).any fun kv => decide (kv.1 = .inl k)) = kd.any fun e => decide (e.1 = k) := by
  unfold encKD
  rw [List.any_map]
  congr 1
  funext e
  exact dec_inl
theorem set_enc (kd : KD) (k : Int) (v : Mo) : setK (encKD kd) (.inl k) (.d (moreD v)) = encKD (kset kd k v) := by
  unfold setK kset
  rw [any_enc]
  by_cases h : (kd.any fun e => decide (e.1 = k)) = true
  · rw [if_pos h, if_pos h]
    unfold encKD
    rw [List.map_map, List.map_map]
    refine List.map_congr_left fun e _ => ?_
    show (if (Sum.inl e.1 : Key) = .inl k then _ else _) = _
    by_cases he : e.1 = k
    · rw [if_pos (by rw [he]), Function.comp, if_pos he]
    · rw [if_neg (fun z => he (Sum.inl.inj z)), Function.comp, if_neg he]
  · rw [if_neg h, if_neg h]
    unfold encKD
    rw [List.map_append]
    rfl
theorem kset_keys {kd : KD} {k : Int} {v : Mo} : (kset kd k v).map (·.1) = if (kd.any fun e => decide (e.1 = k)) = true then kd.map (·.1) else kd.map (·.1) ++ [k] := by
  unfold kset
  by_cases h : (kd.any fun e => decide (e.1 = k)) = true
  · rw [if_pos h, if_pos h, List.map_map]
    refine List.map_congr_left fun e _ => ?_
    by_cases he : e.1 = k
    · rw [Function.comp, if_pos he]
    · rw [Function.comp, if_neg he]
  · rw [if_neg h, if_neg h, List.map_append]
    rfl
theorem any_key {kd : KD} {k : Int} : (kd.any fun e => decide (e.1 = k)) = decide (k ∈ kd.map (·.1)) := by
  rw [Bool.eq_iff_iff, List.any_eq_true, decide_eq_true_iff, List.mem_map]
  exact ⟨fun ⟨e, h, he⟩ => ⟨e, h, of_decide_eq_true he⟩, fun ⟨e, h, he⟩ => ⟨e, h, decide_eq_true he⟩⟩
theorem kset_nodup {kd : KD} {k : Int} {v : Mo} (h : (kd.map (·.1)).Nodup) : ((kset kd k v).map (·.1)).Nodup := by
  rw [kset_keys, any_key]
  by_cases hk : k ∈ kd.map (·.1)
  · rw [decide_eq_true hk, if_pos rfl]; exact h
  · rw [decide_eq_false hk, if_neg (by simp)]
    exact List.nodup_append.mpr ⟨h, by simp, fun a ha b hb e => hk (by rw [List.mem_singleton] at hb; rw [← hb, ← e]; exact ha)⟩
theorem kset_mem {kd : KD} {k : Int} {v : Mo} {e : Int × Mo} (h : e ∈ kset kd k v) : e = (k, v) ∨ e ∈ kd := by
  unfold kset at h
  by_cases hk : (kd.any fun e => decide (e.1 = k)) = true
  · rw [if_pos hk, List.mem_map] at h
    obtain ⟨e0, h0, h1⟩ := h
    by_cases he : e0.1 = k
    · rw [if_pos he, he] at h1; exact .inl h1.symm
    · rw [if_neg he] at h1; rw [← h1]; exact .inr h0
  · rw [if_neg hk] at h
    rcases List.mem_append.mp h with h | h
    · exact .inr h
    · exact .inl (List.mem_singleton.mp h)
/-- the lesser of two, as min tells it -/
def minM (a b : Mo) : Mo := if dataLt (moreD b) (moreD a) = true then b else a
def putMin (kd : KD) (k : Int) (m : Mo) : KD := kset kd k (minM ((kfnd kd k).getD m) m)
/-- one place behind, one gap -/
def gapStep (s0 s1 size : Int) (x : Mo) (here : Int) (kd : KD) (gap : Int) : KD :=
  if upTo' (here + gap) s0 = upTo' (here + gap) s1 then putMin kd (upTo' (here + gap) s0 + size) (x.1 + gap, x.2 ++ [gap]) else kd
def hereStep (s0 s1 size : Int) (known : KD) (kd : KD) (here : Int) : KD := [0, 1, 2, 3].foldl (gapStep s0 s1 size ((kfnd known here).getD (0, [])) here) kd
def sortI (l : List Int) : List Int := l.mergeSort (fun a b => decide (a ≤ b))
def fieldStep (a1 a2 : Int) (known : KD) (f : Field) : KD := (sortI (known.map (·.1))).foldl (hereStep (min f.2 a1) (min f.2 a2) f.2 known) []
def knownF (a1 a2 : Int) (fs : List Field) : KD := fs.foldl (fieldStep a1 a2) [(0, (0, []))]
/-- the told gaps -/
def filledF (a1 a2 : Int) (fs : List Field) : PyData := PySem.W.minD (moreD (((knownF a1 a2 fs).map (·.2)).headD (0, []))) (((knownF a1 a2 fs).map (·.2)).tail.map moreD)
end DL
end L2
set_option Elab.async false
set_option linter.all false
set_option maxRecDepth 100000
set_option maxHeartbeats 4000000
namespace L2
namespace DL
open PySem PySem.Spec PyProof.Rows
/-- keys distinct and within 0 .. B, gap lists of length n -/
structure KIn (B : Int) (n : Nat) (kd : KD) : Prop where
  nd : (kd.map (·.1)).Nodup
  lo : ∀ e ∈ kd, 0 ≤ e.1 ∧ e.1 ≤ B
  len : ∀ e ∈ kd, e.2.2.length = n
theorem nodup_len {B : Nat} : ∀ {l : List Int}, l.Nodup → (∀ k ∈ l, 0 ≤ k ∧ k ≤ (B : Int)) → l.length ≤ B + 1 := by
  intro l nd h
  have h1 : (l.map Int.toNat).Nodup := by
    rw [List.nodup_iff_pairwise_ne] at nd ⊢
    rw [List.pairwise_map]
    refine List.Pairwise.imp_of_mem (fun {a b} ha hb hab e => hab ?_) nd
    have := h a ha
    have := h b hb
    omega
  have h2 : (l.map Int.toNat).length ≤ (List.range (B + 1)).length := by
    refine List.Nodup.length_le_of_subset h1 fun x hx => ?_
    obtain ⟨k, hk, rfl⟩ := List.mem_map.mp hx
    have := h k hk
    exact List.mem_range.mpr (by omega)
  rw [List.length_map, List.length_range] at h2
  exact h2
theorem KIn.length {B : Nat} {n : Nat} {kd : KD} (h : KIn (B : Int) n kd) : kd.length ≤ B + 1 := by
  have := nodup_len (B := B) h.nd fun k hk => by
    obtain ⟨e, he, rfl⟩ := List.mem_map.mp hk
    exact h.lo e he
  rwa [List.length_map] at this
theorem minM_or (a b : Mo) : minM a b = a ∨ minM a b = b := by
  unfold minM
  split
  · exact .inr rfl
  · exact .inl rfl
theorem kfnd_mem {kd : KD} {k : Int} {x : Mo} (h : kfnd kd k = some x) : (k, x) ∈ kd := by
  unfold kfnd at h
  cases q : kd.find? fun e => decide (e.1 = k) with
  | none => rw [q] at h; cases h
  | some e =>
    rw [q] at h
    cases h
    have := List.find?_some q
    have e1 : e.1 = k := by simpa using this
    rw [← e1]
    exact List.mem_of_find?_eq_some q
theorem KIn.put {B : Int} {n : Nat} {kd : KD} (h : KIn B n kd) {k : Int} {m : Mo} (hk : 0 ≤ k ∧ k ≤ B) (hm : m.2.length = n) : KIn B n (putMin kd k m) := by
  unfold putMin
  refine ⟨kset_nodup h.nd, fun e he => ?_, fun e he => ?_⟩
  · rcases kset_mem he with rfl | he
    · exact hk
    · exact h.lo e he
  · rcases kset_mem he with rfl | he
    · show (minM _ m).2.length = n
      rcases minM_or ((kfnd kd k).getD m) m with q | q
      · rw [q]
        cases z : kfnd kd k with
        | none => exact hm
        | some x => exact h.len _ (kfnd_mem z)
      · rw [q]; exact hm
    · exact h.len e he
theorem KIn.gap {B : Int} {n : Nat} {kd : KD} (h : KIn B n kd) {s0 s1 size here gap : Int} {x : Mo} (hs : isSize s0) (hz : isSize size) (h0 : 0 ≤ here) (hg : 0 ≤ gap ∧ gap ≤ 3) (hB : here + 10 ≤ B) (hx : x.2.length + 1 = n) : KIn B n (gapStep s0 s1 size x here kd gap) := by
  unfold gapStep
  split
  · have p := hs.pos
    have q := hz.pos
    have l := upTo'_lo (p := here + gap) (s := s0) p.1
    have u : upTo' (here + gap) s0 ≤ here + gap + s0 - 1 := by
      unfold upTo'
      have := Int.ediv_mul_le (here + gap + s0 - 1) (show s0 ≠ 0 by omega)
      omega
    have s4 : s0 ≤ 4 ∧ size ≤ 4 := by
      constructor
      · rcases hs with e | e | e <;> omega
      · rcases hz with e | e | e <;> omega
    exact h.put ⟨by omega, by omega⟩ (by simpa using hx)
  · exact h
end DL
end L2
set_option Elab.async false
set_option linter.all false
set_option maxRecDepth 100000
set_option maxHeartbeats 4000000
namespace L2
namespace DL
open PySem PySem.Spec PyProof.Rows
theorem KIn.gaps {B : Int} {n : Nat} {s0 s1 size here : Int} {x : Mo} (hs : isSize s0) (hz : isSize size) (h0 : 0 ≤ here) (hB : here + 10 ≤ B) (hx : x.2.length + 1 = n) : ∀ (gs : List Int) {kd : KD}, KIn B n kd → (∀ g ∈ gs, 0 ≤ g ∧ g ≤ 3) → KIn B n (gs.foldl (gapStep s0 s1 size x here) kd)
  | [], _, h, _ => h
  | g :: gs, _, h, hg => KIn.gaps hs hz h0 hB hx gs (h.gap hs hz h0 (hg g List.mem_cons_self) hB hx) fun y hy => hg y (List.mem_cons_of_mem _ hy)
theorem four_ok : ∀ g ∈ ([0, 1, 2, 3] : List Int), 0 ≤ g ∧ g ≤ 3 := by decide
theorem KIn.heres {B : Int} {n : Nat} {s0 s1 size : Int} {known : KD} (hk : KIn B n known) (hs : isSize s0) (hz : isSize size) : ∀ (hs' : List Int) {kd : KD}, KIn (B + 10) (n + 1) kd → (∀ k ∈ hs', k ∈ known.map (·.1)) → KIn (B + 10) (n + 1) (hs'.foldl (hereStep s0 s1 size known) kd)
  | [], _, h, _ => h
  | k :: ks, _, h, hm => by
    refine KIn.heres hk hs hz ks ?_ fun y hy => hm y (List.mem_cons_of_mem _ hy)
    obtain ⟨e, he, rfl⟩ := List.mem_map.mp (hm k List.mem_cons_self)
    have lo := hk.lo e he
    unfold hereStep
    refine KIn.gaps hs hz lo.1 (by omega) ?_ _ h four_ok
    cases z : kfnd known e.1 with
    | none =>
      exfalso
      unfold kfnd at z
      cases q : known.find? fun e' => decide (e'.1 = e.1) with
      | none =>
        rw [List.find?_eq_none] at q
        have := q e he
        simp at this
      | some y => rw [q] at z; cases z
    | some x => exact congrArg (· + 1) (hk.len _ (kfnd_mem z))
theorem sortI_mem {l : List Int} {k : Int} : k ∈ sortI l ↔ k ∈ l := (List.mergeSort_perm _ _).mem_iff
theorem KIn.nil {B : Int} {n : Nat} : KIn B n [] := ⟨List.nodup_nil, fun e he => absurd he (by simp), fun e he => absurd he (by simp)⟩
theorem min_size {a b : Int} (ha : isSize a) (hb : isSize b) : isSize (min a b) := by rcases ha with a | a | a <;> rcases hb with b | b | b <;> rw [a, b] <;> decide
theorem knownF_in {a1 a2 : Int} (h1 : isSize a1) : ∀ (fs : List Field), (∀ f ∈ fs, isSize f.2) → KIn ((10 * fs.length : Nat) : Int) fs.length (knownF a1 a2 fs) := fun fs => by
  induction fs using rev_ind with
  | h0 => exact fun _ => ⟨by simp [knownF], fun e he => by simp [knownF] at he; rw [he]; simp, fun e he => by simp [knownF] at he; rw [he]; rfl⟩
  | h1 fs f ih =>
    intro h
    have ih := ih fun g hg => h g (List.mem_append_left _ hg)
    have hf := h f (by simp)
    have e : knownF a1 a2 (fs ++ [f]) = fieldStep a1 a2 (knownF a1 a2 fs) f := by unfold knownF; rw [List.foldl_append]; rfl
    rw [e, List.length_append]
    unfold fieldStep
    have := KIn.heres (s1 := min f.2 a2) ih (min_size hf h1) hf (sortI ((knownF a1 a2 fs).map (·.1))) (kd := []) KIn.nil fun k hk => sortI_mem.mp hk
    rw [show ((10 * (fs.length + [f].length) : Nat) : Int) = ((10 * fs.length : Nat) : Int) + 10 by simp; omega]
    exact this
end DL
end L2
set_option Elab.async false
set_option linter.all false
set_option maxRecDepth 100000
set_option maxHeartbeats 4000000
namespace L2
namespace DL
open PySem PySem.Spec PyProof.Rows
theorem kset_ne (kd : KD) (k : Int) (v : Mo) : kset kd k v ≠ [] := by
  unfold kset
  split
  · rename_i h
    intro e
    rw [List.map_eq_nil_iff] at e
    rw [e] at h
    cases h
  · simp
theorem gapStep_keep {s0 s1 size here gap : Int} {x : Mo} {kd : KD} (h : kd ≠ []) : gapStep s0 s1 size x here kd gap ≠ [] := by
  unfold gapStep
  split
  · exact kset_ne _ _ _
  · exact h
theorem gaps_keep {s0 s1 size here : Int} {x : Mo} : ∀ (gs : List Int) {kd : KD}, kd ≠ [] → gs.foldl (gapStep s0 s1 size x here) kd ≠ []
  | [], _, h => h
  | g :: gs, _, h => gaps_keep gs (gapStep_keep h)
theorem gaps_some {s0 s1 size here : Int} {x : Mo} : ∀ (gs : List Int) (kd : KD), (∃ g ∈ gs, upTo' (here + g) s0 = upTo' (here + g) s1) → gs.foldl (gapStep s0 s1 size x here) kd ≠ []
  | [], _, ⟨g, hg, _⟩ => absurd hg (by simp)
  | g :: gs, kd, ⟨g', hg, e⟩ => by
    rw [List.foldl_cons]
    rcases List.mem_cons.mp hg with rfl | hg
    · refine gaps_keep gs ?_
      unfold gapStep
      rw [if_pos e]
      exact kset_ne _ _ _
    · exact gaps_some gs _ ⟨g', hg, e⟩
theorem upTo_mul {p s : Int} (hs : isSize s) (h : p % 4 = 0) : upTo' p s = p := by
  unfold upTo'
  rcases hs with e | e | e <;> rw [e] <;> omega
theorem four_some {s0 s1 here : Int} (h0 : isSize s0) (h1 : isSize s1) : ∃ g ∈ ([0, 1, 2, 3] : List Int), upTo' (here + g) s0 = upTo' (here + g) s1 := by
  have key : ∀ g ∈ ([0, 1, 2, 3] : List Int), (here + g) % 4 = 0 → ∃ g ∈ ([0, 1, 2, 3] : List Int), upTo' (here + g) s0 = upTo' (here + g) s1 := fun g hg h => ⟨g, hg, by rw [upTo_mul h0 h, upTo_mul h1 h]⟩
  have : here % 4 = 0 ∨ here % 4 = 1 ∨ here % 4 = 2 ∨ here % 4 = 3 := by omega
  rcases this with h | h | h | h
  · exact key 0 (by simp) (by omega)
  · exact key 3 (by simp) (by omega)
  · exact key 2 (by simp) (by omega)
  · exact key 1 (by simp) (by omega)
theorem heres_keep {s0 s1 size : Int} {known : KD} : ∀ (hs : List Int) {kd : KD}, kd ≠ [] → hs.foldl (hereStep s0 s1 size known) kd ≠ []
  | [], _, h => h
  | k :: ks, _, h => heres_keep ks (gaps_keep _ h)
theorem knownF_ne {a1 a2 : Int} (h1 : isSize a1) (h2 : isSize a2) : ∀ (fs : List Field), (∀ f ∈ fs, isSize f.2) → knownF a1 a2 fs ≠ [] := fun fs => by
  induction fs using rev_ind with
  | h0 => exact fun _ => by simp [knownF]
  | h1 fs f ih =>
    intro h
    have ih := ih fun g hg => h g (List.mem_append_left _ hg)
    have hf := h f (by simp)
    have e : knownF a1 a2 (fs ++ [f]) = fieldStep a1 a2 (knownF a1 a2 fs) f := by unfold knownF; rw [List.foldl_append]; rfl
    rw [e]
    unfold fieldStep
    cases hq : sortI ((knownF a1 a2 fs).map (·.1)) with
    | nil =>
      exfalso
      have : (sortI ((knownF a1 a2 fs).map (·.1))).length = ((knownF a1 a2 fs).map (·.1)).length := (List.mergeSort_perm _ _).length_eq
      rw [hq, List.length_map] at this
      exact ih (List.length_eq_zero_iff.mp this.symm)
    | cons k ks => exact heres_keep ks (gaps_some _ _ (four_some (min_size hf h1) (min_size hf h2)))
end DL
end L2
set_option Elab.async false
set_option linter.all false
set_option maxRecDepth 100000
set_option maxHeartbeats 4000000
/-! plain: the order of gaps, as one number -/
namespace L2
namespace DL
open PySem PySem.Spec PyProof.Rows
open PySem.W (dataLt alike alikeAll keyToksAll alike_ints)
def code (gs : List Int) : Int := gs.foldl (fun a g => a * 4 + g) 0
def inG (gs : List Int) : Prop := ∀ g ∈ gs, 0 ≤ g ∧ g ≤ 3
def keyM (x : Mo) : Int := x.1 * 4 ^ x.2.length + code x.2
theorem inG_nil : inG [] := fun _ h => absurd h (by simp)
theorem inG.tail {g : Int} {gs : List Int} (h : inG (g :: gs)) : inG gs := fun x hx => h x (List.mem_cons_of_mem _ hx)
theorem inG_snoc {g : Int} {gs : List Int} : inG (gs ++ [g]) ↔ inG gs ∧ 0 ≤ g ∧ g ≤ 3 := by
  constructor
  · exact fun h => ⟨fun x hx => h x (List.mem_append_left _ hx), h g (by simp)⟩
  · intro ⟨h, q⟩ x hx
    rcases List.mem_append.mp hx with hx | hx
    · exact h x hx
    · rw [List.mem_singleton] at hx; rw [hx]; exact q
theorem code_snoc (gs : List Int) (g : Int) : code (gs ++ [g]) = code gs * 4 + g := by unfold code; rw [List.foldl_append]; rfl
theorem pow4_pos (n : Nat) : (0 : Int) < 4 ^ n := Int.pow_pos (by decide)
theorem code_bd : ∀ {gs : List Int}, inG gs → 0 ≤ code gs ∧ code gs < 4 ^ gs.length := fun {gs} => by
  induction gs using rev_ind with
  | h0 => exact fun _ => ⟨by decide, by decide⟩
  | h1 gs g ih =>
    intro h
    obtain ⟨h1, h2⟩ := inG_snoc.mp h
    have ih := ih h1
    rw [code_snoc, List.length_append]
    show _ ∧ _ < (4 : Int) ^ (gs.length + 1)
    rw [Int.pow_succ]
    omega
theorem code_acc (gs : List Int) (a : Int) : gs.foldl (fun a g => a * 4 + g) a = a * 4 ^ gs.length + code gs := by
  induction gs using rev_ind generalizing a with
  | h0 => simp [code]
  | h1 gs g ih =>
    rw [List.foldl_append, code_snoc, List.length_append]
    show (gs.foldl _ a) * 4 + g = a * 4 ^ (gs.length + 1) + _
    rw [ih, Int.pow_succ, ← Int.mul_assoc]
    omega
theorem code_cons (g : Int) (gs : List Int) : code (g :: gs) = g * 4 ^ gs.length + code gs := by
  show gs.foldl _ (0 * 4 + g) = _
  rw [code_acc]
  congr 2
  omega
theorem lt_scale {a b c d P : Int} (hP : 0 < P) (hc : 0 ≤ c ∧ c < P) (hd : 0 ≤ d ∧ d < P) : a * P + c < b * P + d ↔ a < b ∨ (a = b ∧ c < d) := by
  constructor
  · intro h
    rcases Int.lt_trichotomy a b with q | q | q
    · exact .inl q
    · subst q; exact .inr ⟨rfl, by omega⟩
    · exfalso
      have h1 : (b + 1) * P ≤ a * P := Int.mul_le_mul_of_nonneg_right (by omega) (by omega)
      rw [Int.add_mul] at h1
      omega
  · rintro (q | ⟨rfl, q⟩)
    · have h1 : (a + 1) * P ≤ b * P := Int.mul_le_mul_of_nonneg_right (by omega) (by omega)
      rw [Int.add_mul] at h1
      omega
    · omega
theorem eqv_int {a b : Int} : PyData.eqv (.int a) (.int b) = decide (a = b) := by rw [PyData.eqv, Bool.eq_iff_iff]; simp
theorem eqvAll_ints : ∀ xs ys : List Int, PyData.eqvAll (xs.map .int) (ys.map .int) = true → xs = ys
  | [], [], _ => rfl
  | [], y :: ys, h => by simp [PyData.eqvAll] at h
  | x :: xs, [], h => by simp [PyData.eqvAll] at h
  | x :: xs, y :: ys, h => by
    rw [List.map_cons, List.map_cons, PySem.W.eqv_all_cons, Bool.and_eq_true, eqv_int] at h
    rw [of_decide_eq_true h.1, eqvAll_ints xs ys h.2]
theorem lex_ints : ∀ xs ys : List Int, xs.length = ys.length → inG xs → inG ys → PyProof.Rows.lexLt itemOrd (keyToksAll (xs.map .int)) (keyToksAll (ys.map .int)) = decide (code xs < code ys)
  | [], [], _, _, _ => by simp [code, PyProof.Rows.lex_irrefl]
  | [], y :: ys, h, _, _ => by simp at h
  | x :: xs, [], h, _, _ => by simp at h
  | x :: xs, y :: ys, h, hx, hy => by
    have hl : xs.length = ys.length := by simpa using h
    have ih := lex_ints xs ys hl hx.tail hy.tail
    have bx := code_bd hx.tail
    have by' := code_bd hy.tail
    rw [← hl] at by'
    rw [code_cons, code_cons, ← hl]
    have key := lt_scale (a := x) (b := y) (pow4_pos xs.length) bx by'
    by_cases e : x = y
    · subst e
      rw [List.map_cons, List.map_cons, PySem.W.dataLt_all_yes (by simp [alike]) (by rw [eqv_int]; simp), ih, Bool.eq_iff_iff, decide_eq_true_iff, decide_eq_true_iff, key]
      omega
    · rw [List.map_cons, List.map_cons, PySem.W.dataLt_all_no (by simp [alike]) (by rw [eqv_int]; simp [e]), PySem.W.dataLt_int, Bool.eq_iff_iff, decide_eq_true_iff, decide_eq_true_iff, key]
      omega
theorem lt_more {x y : Mo} (hl : x.2.length = y.2.length) (hx : inG x.2) (hy : inG y.2) : dataLt (moreD x) (moreD y) = decide (keyM x < keyM y) := by
  have bx := code_bd hx
  have by' := code_bd hy
  rw [← hl] at by'
  have key := lt_scale (a := x.1) (b := y.1) (pow4_pos x.2.length) bx by'
  unfold moreD keyM
  rw [PySem.W.dataLt_tuple, ← hl]
  by_cases e : x.1 = y.1
  · rw [PySem.W.dataLt_all_yes (by simp [alike]) (by rw [eqv_int]; simp [e])]
    have al : alike (.list (x.2.map .int)) (.list (y.2.map .int)) = true := by simp only [alike]; exact alike_ints _ _
    by_cases e2 : PyData.eqv (.list (x.2.map .int)) (.list (y.2.map .int)) = true
    · rw [PySem.W.dataLt_all_yes al e2]
      have : x.2 = y.2 := eqvAll_ints _ _ (by simpa [PyData.eqv] using e2)
      rw [PyProof.Rows.lex_irrefl, Bool.eq_iff_iff, decide_eq_true_iff, key, this]
      constructor
      · intro h; cases h
      · omega
    · rw [PySem.W.dataLt_all_no al (by simpa using e2), PySem.W.dataLt_list, lex_ints _ _ hl hx hy, Bool.eq_iff_iff, decide_eq_true_iff, decide_eq_true_iff, key]
      omega
  · rw [PySem.W.dataLt_all_no (by simp [alike]) (by rw [eqv_int]; simp [e]), PySem.W.dataLt_int, Bool.eq_iff_iff, decide_eq_true_iff, decide_eq_true_iff, key]
    omega
theorem code_inj : ∀ xs ys : List Int, xs.length = ys.length → inG xs → inG ys → code xs = code ys → xs = ys
  | [], [], _, _, _, _ => rfl
  | [], y :: ys, h, _, _, _ => by simp at h
  | x :: xs, [], h, _, _, _ => by simp at h
  | x :: xs, y :: ys, h, hx, hy, e => by
    have hl : xs.length = ys.length := by simpa using h
    have bx := code_bd hx.tail
    have by' := code_bd hy.tail
    rw [← hl] at by'
    rw [code_cons, code_cons, ← hl] at e
    have k1 := lt_scale (a := x) (b := y) (pow4_pos xs.length) bx by'
    have k2 := lt_scale (a := y) (b := x) (pow4_pos xs.length) by' bx
    have e1 : x = y := by omega
    subst e1
    rw [code_inj xs ys hl hx.tail hy.tail (by omega)]
theorem keyM_inj {x y : Mo} (hl : x.2.length = y.2.length) (hx : inG x.2) (hy : inG y.2) (e : keyM x = keyM y) : x = y := by
  have bx := code_bd hx
  have by' := code_bd hy
  rw [← hl] at by'
  unfold keyM at e
  rw [← hl] at e
  have k1 := lt_scale (a := x.1) (b := y.1) (pow4_pos x.2.length) bx by'
  have k2 := lt_scale (a := y.1) (b := x.1) (pow4_pos x.2.length) by' bx
  have e1 : x.1 = y.1 := by omega
  rw [e1] at e
  exact Prod.ext e1 (code_inj _ _ hl hx hy (by omega))
theorem keyM_snoc (s : Int) (gs : List Int) (g : Int) : keyM (s + g, gs ++ [g]) = 4 * keyM (s, gs) + (g * 4 ^ (gs.length + 1) + g) := by
  unfold keyM
  rw [code_snoc, List.length_append]
  show (s + g) * 4 ^ (gs.length + 1) + (code gs * 4 + g) = 4 * (s * 4 ^ gs.length + code gs) + (g * 4 ^ (gs.length + 1) + g)
  rw [Int.add_mul, Int.pow_succ, ← Int.mul_assoc s]
  omega
/-- a set of lists that may be compared -/
def Okm (n : Nat) (x : Mo) : Prop := x.2.length = n ∧ inG x.2
theorem keyM_min {n : Nat} {a b : Mo} (ha : Okm n a) (hb : Okm n b) : keyM (minM a b) ≤ keyM a ∧ keyM (minM a b) ≤ keyM b := by
  unfold minM
  rw [lt_more (hb.1.trans ha.1.symm) hb.2 ha.2]
  by_cases h : keyM b < keyM a
  · rw [decide_eq_true h, if_pos rfl]; omega
  · rw [decide_eq_false h, if_neg (by simp)]; omega
theorem kfnd_kset (kd : KD) (k k' : Int) (v : Mo) : kfnd (kset kd k v) k' = if k' = k then some v else kfnd kd k' := by
  unfold kset
  by_cases h : (kd.any fun e => decide (e.1 = k)) = true
  · rw [if_pos h]
    unfold kfnd
    induction kd with
    | nil => cases h
    | cons e kd ih =>
      rw [List.map_cons]
      by_cases he : e.1 = k
      · rw [if_pos he]
        by_cases hk : k' = k
        · rw [List.find?_cons_of_pos (by simp [he, hk]), if_pos hk]; rfl
        · rw [List.find?_cons_of_neg (by simp [he]; exact fun q => hk q.symm), List.find?_cons_of_neg (by simp [he]; exact fun q => hk q.symm), if_neg hk]
          clear h ih
          induction kd with
          | nil => rfl
          | cons e2 kd ih2 =>
            rw [List.map_cons]
            by_cases he2 : e2.1 = k
            · rw [if_pos he2, List.find?_cons_of_neg (by simp [he2]; exact fun q => hk q.symm), List.find?_cons_of_neg (by simp [he2]; exact fun q => hk q.symm)]; exact ih2
            · rw [if_neg he2]
              by_cases h3 : e2.1 = k'
              · rw [List.find?_cons_of_pos (by simp [h3]), List.find?_cons_of_pos (by simp [h3])]
              · rw [List.find?_cons_of_neg (by simp [h3]), List.find?_cons_of_neg (by simp [h3])]; exact ih2
      · rw [if_neg he]
        have h' : (kd.any fun e => decide (e.1 = k)) = true := by simpa [he] using h
        by_cases h3 : e.1 = k'
        · have : ¬ k' = k := fun q => he (h3.trans q)
          rw [List.find?_cons_of_pos (by simp [h3]), List.find?_cons_of_pos (by simp [h3]), if_neg this]
        · rw [List.find?_cons_of_neg (by simp [h3]), List.find?_cons_of_neg (by simp [h3])]; exact ih h'
  · rw [if_neg h]
    unfold kfnd
    rw [List.find?_append]
    by_cases hk : k' = k
    · rw [if_pos hk]
      have : (kd.find? fun e => decide (e.1 = k')) = none := by
        rw [List.find?_eq_none]
        intro e he q
        exact h (List.any_eq_true.mpr ⟨e, he, by rw [← hk]; exact q⟩)
      rw [this, hk]
      simp
    · rw [if_neg hk]
      cases z : kd.find? fun e => decide (e.1 = k') with
      | some e => rfl
      | none =>
        have : ¬ k = k' := fun q => hk q.symm
        simp [this]
end DL
end L2
set_option Elab.async false
set_option linter.all false
set_option maxRecDepth 100000
set_option maxHeartbeats 4000000
/-! plain: what filled finds is the least list of gaps by which both lay alike -/
namespace L2
namespace DL
open PySem PySem.Spec PyProof.Rows
open PySem.W (dataLt)
/-- by these gaps both lay all alike -/
structure Good (a1 a2 : Int) (fs : List Field) (gs : List Int) : Prop where
  len : gs.length = fs.length
  inn : inG gs
  eq : (plRun a1 (fs.zip gs)).2.2 = (plRun a2 (fs.zip gs)).2.2
abbrev endA (a1 : Int) (fs : List Field) (gs : List Int) : Int := (plRun a1 (fs.zip gs)).1
theorem zip_snoc {fs : List Field} {gs : List Int} {f : Field} {g : Int} (h : gs.length = fs.length) : (fs ++ [f]).zip (gs ++ [g]) = fs.zip gs ++ [(f, g)] := by
  rw [List.zip_append h.symm]; rfl
theorem run_len (al : Int) (l : List (Field × Int)) : (plRun al l).2.2.length = l.length := by
  induction l using rev_ind with
  | h0 => rfl
  | h1 l x ih => rw [plRun_snoc]; show ((plRun al l).2.2 ++ _).length = _; rw [List.length_append, ih, List.length_append]; rfl
theorem run_end {a1 a2 : Int} (l : List (Field × Int)) (h : (plRun a1 l).2.2 = (plRun a2 l).2.2) : (plRun a1 l).1 = (plRun a2 l).1 := by
  induction l using rev_ind with
  | h0 => rfl
  | h1 l x ih =>
    rw [plRun_snoc, plRun_snoc] at h ⊢
    have h : (plRun a1 l).2.2 ++ [_] = (plRun a2 l).2.2 ++ [_] := h
    have := List.append_inj_right h (by rw [run_len, run_len])
    have e := List.singleton_inj.mp this
    show _ + _ = _ + _
    rw [e]
theorem good_snoc {a1 a2 : Int} {fs : List Field} {f : Field} {gs : List Int} {g : Int} (hl : gs.length = fs.length) : Good a1 a2 (fs ++ [f]) (gs ++ [g]) ↔ Good a1 a2 fs gs ∧ (0 ≤ g ∧ g ≤ 3) ∧ upTo' (endA a1 fs gs + g) (min f.2 a1) = upTo' (endA a1 fs gs + g) (min f.2 a2) := by
  constructor
  · intro ⟨h1, h2, h3⟩
    rw [zip_snoc hl, plRun_snoc, plRun_snoc] at h3
    have h3 : (plRun a1 (fs.zip gs)).2.2 ++ [_] = (plRun a2 (fs.zip gs)).2.2 ++ [_] := h3
    have e1 := List.append_inj_left h3 (by rw [run_len, run_len])
    have e2 := List.singleton_inj.mp (List.append_inj_right h3 (by rw [run_len, run_len]))
    obtain ⟨i1, i2⟩ := inG_snoc.mp h2
    refine ⟨⟨hl, i1, e1⟩, i2, ?_⟩
    rw [← run_end _ e1] at e2
    exact e2
  · intro ⟨⟨h1, h2, h3⟩, h4, h5⟩
    refine ⟨by rw [List.length_append, List.length_append, h1]; rfl, inG_snoc.mpr ⟨h2, h4⟩, ?_⟩
    rw [zip_snoc hl, plRun_snoc, plRun_snoc]
    show (plRun a1 (fs.zip gs)).2.2 ++ [_] = (plRun a2 (fs.zip gs)).2.2 ++ [_]
    rw [h3]
    refine congrArg (fun z => _ ++ [z]) ?_
    have e := run_end _ h3
    show upTo' ((plRun a1 (fs.zip gs)).1 + g) _ = upTo' ((plRun a2 (fs.zip gs)).1 + g) _
    rw [← e]
    exact h5
theorem end_snoc {a1 : Int} {fs : List Field} {f : Field} {gs : List Int} {g : Int} (hl : gs.length = fs.length) : endA a1 (fs ++ [f]) (gs ++ [g]) = upTo' (endA a1 fs gs + g) (min f.2 a1) + f.2 := by
  unfold endA
  rw [zip_snoc hl, plRun_snoc]
  rfl
/-- an entry that is right -/
structure Right (a1 a2 : Int) (fs : List Field) (p : Int) (x : Mo) : Prop where
  good : Good a1 a2 fs x.2
  fin : endA a1 fs x.2 = p
  sum : x.1 = x.2.sum
theorem Right.okm {a1 a2 : Int} {fs : List Field} {p : Int} {x : Mo} (h : Right a1 a2 fs p x) : Okm fs.length x := ⟨h.good.len, h.good.inn⟩
def Le (kd : KD) (p K : Int) : Prop := ∃ x, kfnd kd p = some x ∧ keyM x ≤ K
def AllR (a1 a2 : Int) (fs : List Field) (kd : KD) : Prop := ∀ e ∈ kd, Right a1 a2 fs e.1 e.2
theorem AllR.fnd {a1 a2 : Int} {fs : List Field} {kd : KD} (h : AllR a1 a2 fs kd) {p : Int} {x : Mo} (e : kfnd kd p = some x) : Right a1 a2 fs p x := h _ (kfnd_mem e)
theorem putMin_right {a1 a2 : Int} {fs : List Field} {kd : KD} (h : AllR a1 a2 fs kd) {k : Int} {m : Mo} (hm : Right a1 a2 fs k m) : AllR a1 a2 fs (putMin kd k m) := by
  intro e he
  unfold putMin at he
  rcases kset_mem he with rfl | he
  · rcases minM_or ((kfnd kd k).getD m) m with q | q
    · show Right a1 a2 fs k (minM _ m)
      rw [q]
      cases z : kfnd kd k with
      | none => exact hm
      | some x => exact h.fnd z
    · show Right a1 a2 fs k (minM _ m)
      rw [q]; exact hm
  · exact h e he
theorem putMin_le {a1 a2 : Int} {fs : List Field} {kd : KD} (h : AllR a1 a2 fs kd) {k : Int} {m : Mo} (hm : Right a1 a2 fs k m) {p K : Int} (hl : Le kd p K ∨ (p = k ∧ keyM m ≤ K)) : Le (putMin kd k m) p K := by
  unfold putMin Le
  rw [kfnd_kset]
  by_cases e : p = k
  · rw [if_pos e]
    refine ⟨_, rfl, ?_⟩
    have hx : Right a1 a2 fs k ((kfnd kd k).getD m) := by
      cases z : kfnd kd k with
      | none => exact hm
      | some x => exact h.fnd z
    have := keyM_min hx.okm hm.okm
    rcases hl with ⟨x, h1, h2⟩ | ⟨_, h2⟩
    · rw [e] at h1
      rw [h1] at this ⊢
      exact Int.le_trans this.1 h2
    · exact Int.le_trans this.2 h2
  · rw [if_neg e]
    rcases hl with ⟨x, h1, h2⟩ | ⟨h1, _⟩
    · exact ⟨x, h1, h2⟩
    · exact absurd h1 e
section
variable {a1 a2 : Int} {fs : List Field} {f : Field} {known : KD}
theorem gap_right {kd : KD} {here : Int} {x : Mo} (hx : Right a1 a2 fs here x) (h : AllR a1 a2 (fs ++ [f]) kd) {gap : Int} (hg : 0 ≤ gap ∧ gap ≤ 3) (q : upTo' (here + gap) (min f.2 a1) = upTo' (here + gap) (min f.2 a2)) : Right a1 a2 (fs ++ [f]) (upTo' (here + gap) (min f.2 a1) + f.2) (x.1 + gap, x.2 ++ [gap]) := by
  refine ⟨(good_snoc hx.good.len).mpr ⟨hx.good, hg, ?_⟩, ?_, ?_⟩
  · rw [hx.fin]; exact q
  · show endA a1 (fs ++ [f]) (x.2 ++ [gap]) = _
    rw [end_snoc hx.good.len, hx.fin]
  · show x.1 + gap = (x.2 ++ [gap]).sum
    rw [hx.sum]; simp
theorem gapStep_right {kd : KD} {here : Int} {x : Mo} (hx : Right a1 a2 fs here x) (h : AllR a1 a2 (fs ++ [f]) kd) {gap : Int} (hg : 0 ≤ gap ∧ gap ≤ 3) : AllR a1 a2 (fs ++ [f]) (gapStep (min f.2 a1) (min f.2 a2) f.2 x here kd gap) := by
  unfold gapStep
  split
  · rename_i q; exact putMin_right h (gap_right hx h hg q)
  · exact h
theorem gapStep_le {kd : KD} {here : Int} {x : Mo} (hx : Right a1 a2 fs here x) (h : AllR a1 a2 (fs ++ [f]) kd) {gap : Int} (hg : 0 ≤ gap ∧ gap ≤ 3) {p K : Int} (hl : Le kd p K) : Le (gapStep (min f.2 a1) (min f.2 a2) f.2 x here kd gap) p K := by
  unfold gapStep
  split
  · rename_i q; exact putMin_le h (gap_right hx h hg q) (.inl hl)
  · exact hl
theorem gaps_inv {here : Int} {x : Mo} (hx : Right a1 a2 fs here x) : ∀ (gl : List Int) {kd : KD}, (∀ g ∈ gl, 0 ≤ g ∧ g ≤ 3) → AllR a1 a2 (fs ++ [f]) kd →
    AllR a1 a2 (fs ++ [f]) (gl.foldl (gapStep (min f.2 a1) (min f.2 a2) f.2 x here) kd) ∧ (∀ p K, Le kd p K → Le (gl.foldl (gapStep (min f.2 a1) (min f.2 a2) f.2 x here) kd) p K) ∧
    ∀ g ∈ gl, upTo' (here + g) (min f.2 a1) = upTo' (here + g) (min f.2 a2) → Le (gl.foldl (gapStep (min f.2 a1) (min f.2 a2) f.2 x here) kd) (upTo' (here + g) (min f.2 a1) + f.2) (keyM (x.1 + g, x.2 ++ [g]))
  | [], _, _, h => ⟨h, fun _ _ h => h, fun g hg => absurd hg (by simp)⟩
  | g :: gl, kd, hg, h => by
    have g0 := hg g List.mem_cons_self
    have ih := gaps_inv hx gl (fun y hy => hg y (List.mem_cons_of_mem _ hy)) (gapStep_right hx h g0)
    refine ⟨ih.1, fun p K hl => ih.2.1 p K (gapStep_le hx h g0 hl), fun g' hg' q => ?_⟩
    rcases List.mem_cons.mp hg' with rfl | hg'
    · refine ih.2.1 _ _ ?_
      unfold gapStep
      rw [if_pos q]
      exact putMin_le h (gap_right hx h g0 q) (.inr ⟨rfl, Int.le_refl _⟩)
    · exact ih.2.2 g' hg' q
theorem heres_inv (hk : AllR a1 a2 fs known) : ∀ (hs : List Int) {kd : KD}, (∀ k ∈ hs, ∃ x, kfnd known k = some x) → AllR a1 a2 (fs ++ [f]) kd →
    AllR a1 a2 (fs ++ [f]) (hs.foldl (hereStep (min f.2 a1) (min f.2 a2) f.2 known) kd) ∧ (∀ p K, Le kd p K → Le (hs.foldl (hereStep (min f.2 a1) (min f.2 a2) f.2 known) kd) p K) ∧
    ∀ k ∈ hs, ∀ x, kfnd known k = some x → ∀ g ∈ ([0, 1, 2, 3] : List Int), upTo' (k + g) (min f.2 a1) = upTo' (k + g) (min f.2 a2) → Le (hs.foldl (hereStep (min f.2 a1) (min f.2 a2) f.2 known) kd) (upTo' (k + g) (min f.2 a1) + f.2) (keyM (x.1 + g, x.2 ++ [g]))
  | [], _, _, h => ⟨h, fun _ _ h => h, fun g hg => absurd hg (by simp)⟩
  | k :: hs, kd, hh, h => by
    obtain ⟨x, hx⟩ := hh k List.mem_cons_self
    have e : hereStep (min f.2 a1) (min f.2 a2) f.2 known kd k = ([0, 1, 2, 3] : List Int).foldl (gapStep (min f.2 a1) (min f.2 a2) f.2 x k) kd := by unfold hereStep; rw [hx]; rfl
    have st := gaps_inv (f := f) (hk.fnd hx) [0, 1, 2, 3] four_ok h
    rw [← e] at st
    have ih := heres_inv hk hs (fun y hy => hh y (List.mem_cons_of_mem _ hy)) st.1
    refine ⟨ih.1, fun p K hl => ih.2.1 p K (st.2.1 p K hl), fun k' hk' y hy g hg q => ?_⟩
    rcases List.mem_cons.mp hk' with rfl | hk'
    · rw [hx] at hy
      cases hy
      exact ih.2.1 _ _ (st.2.2 g hg q)
    · exact ih.2.2 k' hk' y hy g hg q
end
theorem kfnd_hasM {kd : KD} {k : Int} (h : k ∈ kd.map (·.1)) : ∃ x, kfnd kd k = some x := by
  obtain ⟨e, he, rfl⟩ := List.mem_map.mp h
  unfold kfnd
  cases q : kd.find? fun e' => decide (e'.1 = e.1) with
  | none =>
    rw [List.find?_eq_none] at q
    have := q e he
    simp at this
  | some y => exact ⟨_, rfl⟩
theorem kfnd_key {kd : KD} {k : Int} {x : Mo} (h : kfnd kd k = some x) : k ∈ kd.map (·.1) := List.mem_map.mpr ⟨_, kfnd_mem h, rfl⟩
theorem in_four {g : Int} (h : 0 ≤ g ∧ g ≤ 3) : g ∈ ([0, 1, 2, 3] : List Int) := by
  have : g = 0 ∨ g = 1 ∨ g = 2 ∨ g = 3 := by omega
  simpa using this
theorem len_snoc {α : Type} {l : List α} {n : Nat} (h : l.length = n + 1) : ∃ l' x, l = l' ++ [x] ∧ l'.length = n := by
  induction l using rev_ind with
  | h0 => simp at h
  | h1 l x _ => exact ⟨l, x, rfl, by simpa using h⟩
theorem known_best {a1 a2 : Int} (fs : List Field) : AllR a1 a2 fs (knownF a1 a2 fs) ∧ ∀ gs, Good a1 a2 fs gs → Le (knownF a1 a2 fs) (endA a1 fs gs) (keyM (gs.sum, gs)) := by
  induction fs using rev_ind with
  | h0 =>
    refine ⟨fun e he => ?_, fun gs hg => ?_⟩
    · have : e = (0, (0, [])) := by simpa [knownF] using he
      rw [this]
      exact ⟨⟨rfl, inG_nil, rfl⟩, rfl, rfl⟩
    · have e : gs = [] := List.length_eq_zero_iff.mp hg.len
      subst e
      exact ⟨(0, []), rfl, Int.le_refl _⟩
  | h1 fs f ih =>
    have e : knownF a1 a2 (fs ++ [f]) = fieldStep a1 a2 (knownF a1 a2 fs) f := by unfold knownF; rw [List.foldl_append]; rfl
    rw [e]
    unfold fieldStep
    obtain ⟨h1, _, h3⟩ := heres_inv (f := f) ih.1 (sortI ((knownF a1 a2 fs).map (·.1))) (kd := []) (fun k hk => kfnd_hasM (sortI_mem.mp hk)) (fun e he => absurd he (by simp))
    refine ⟨h1, fun gs hg => ?_⟩
    obtain ⟨gs0, g, rfl, hl⟩ := len_snoc (n := fs.length) (by rw [hg.len, List.length_append]; rfl)
    obtain ⟨q1, q2, q3⟩ := (good_snoc hl).mp hg
    obtain ⟨x, hx, hle⟩ := ih.2 gs0 q1
    obtain ⟨y, hy, hy2⟩ := h3 _ (sortI_mem.mpr (kfnd_key hx)) x hx g (in_four q2) q3
    refine ⟨y, by rw [end_snoc hl]; exact hy, Int.le_trans hy2 ?_⟩
    have r := ih.1.fnd hx
    have sm : (gs0 ++ [g]).sum = gs0.sum + g := by simp
    rw [sm, keyM_snoc, keyM_snoc, r.good.len, hl]
    have : keyM (x.1, x.2) ≤ keyM (gs0.sum, gs0) := hle
    omega
/-- the told gaps -/
def bestM (a1 a2 : Int) (fs : List Field) : Mo := ((knownF a1 a2 fs).map (·.2)).tail.foldl minM (((knownF a1 a2 fs).map (·.2)).headD (0, []))
def bestF (a1 a2 : Int) (fs : List Field) : List Int := (bestM a1 a2 fs).2
structure IsBest (a1 a2 : Int) (fs : List Field) (gs : List Int) : Prop where
  good : Good a1 a2 fs gs
  least : ∀ gs', Good a1 a2 fs gs' → keyM (gs.sum, gs) ≤ keyM (gs'.sum, gs')
theorem IsBest.uniq {a1 a2 : Int} {fs : List Field} {gs gs' : List Int} (h : IsBest a1 a2 fs gs) (h' : IsBest a1 a2 fs gs') : gs = gs' := by
  have e := keyM_inj (x := (gs.sum, gs)) (y := (gs'.sum, gs')) (h.good.len.trans h'.good.len.symm) h.good.inn h'.good.inn (Int.le_antisymm (h.least _ h'.good) (h'.least _ h.good))
  exact congrArg Prod.snd e
theorem Good.symm {a1 a2 : Int} {fs : List Field} {gs : List Int} (h : Good a1 a2 fs gs) : Good a2 a1 fs gs := ⟨h.len, h.inn, h.eq.symm⟩
theorem IsBest.symm {a1 a2 : Int} {fs : List Field} {gs : List Int} (h : IsBest a1 a2 fs gs) : IsBest a2 a1 fs gs := ⟨h.good.symm, fun gs' h' => h.least gs' h'.symm⟩
theorem minD_fold : ∀ (l : List Mo) (x : Mo), PySem.W.minD (moreD x) (l.map moreD) = moreD (l.foldl minM x)
  | [], _ => rfl
  | y :: l, x => by
    show PySem.W.minD (if dataLt (moreD y) (moreD x) = true then moreD y else moreD x) (l.map moreD) = moreD (l.foldl minM (minM x y))
    rw [← minD_fold l (minM x y)]
    unfold minM
    split <;> rfl
theorem filledF_best (a1 a2 : Int) (fs : List Field) : filledF a1 a2 fs = .tuple [.int (bestM a1 a2 fs).1, encI (bestF a1 a2 fs)] := by
  unfold filledF
  rw [minD_fold]
  rfl
theorem fold_min {n : Nat} : ∀ (l : List Mo) (x : Mo), Okm n x → (∀ y ∈ l, Okm n y) → (l.foldl minM x ∈ x :: l) ∧ ∀ y ∈ x :: l, keyM (l.foldl minM x) ≤ keyM y
  | [], x, _, _ => ⟨List.mem_cons_self, fun y hy => by rw [List.mem_singleton] at hy; rw [hy]; exact Int.le_refl _⟩
  | z :: l, x, hx, hl => by
    have hz := hl z List.mem_cons_self
    have hm : Okm n (minM x z) := by rcases minM_or x z with q | q <;> rw [q] <;> assumption
    obtain ⟨h1, h2⟩ := fold_min l (minM x z) hm fun y hy => hl y (List.mem_cons_of_mem _ hy)
    have km := keyM_min hx hz
    refine ⟨?_, fun y hy => ?_⟩
    · show l.foldl minM (minM x z) ∈ _
      rcases List.mem_cons.mp h1 with q | q
      · rw [q]
        rcases minM_or x z with q | q <;> rw [q]
        · exact List.mem_cons_self
        · exact List.mem_cons_of_mem _ List.mem_cons_self
      · exact List.mem_cons_of_mem _ (List.mem_cons_of_mem _ q)
    · show keyM (l.foldl minM (minM x z)) ≤ _
      have h0 := h2 (minM x z) List.mem_cons_self
      rcases List.mem_cons.mp hy with rfl | hy
      · omega
      · rcases List.mem_cons.mp hy with rfl | hy
        · omega
        · exact h2 y (List.mem_cons_of_mem _ hy)
theorem best_is {a1 a2 : Int} (h1 : isSize a1) (h2 : isSize a2) (fs : List Field) (hf : ∀ f ∈ fs, isSize f.2) : IsBest a1 a2 fs (bestF a1 a2 fs) ∧ (bestM a1 a2 fs).1 = (bestF a1 a2 fs).sum := by
  obtain ⟨k1, k2⟩ := known_best (a1 := a1) (a2 := a2) fs
  have ne := knownF_ne h1 h2 fs hf
  unfold bestF bestM
  cases hk : knownF a1 a2 fs with
  | nil => exact absurd hk ne
  | cons e rest =>
    rw [hk] at k1 k2
    rw [List.map_cons, List.tail_cons]
    show IsBest _ _ _ ((rest.map (·.2)).foldl minM e.2).2 ∧ ((rest.map (·.2)).foldl minM e.2).1 = ((rest.map (·.2)).foldl minM e.2).2.sum
    have ok : ∀ y ∈ e.2 :: rest.map (·.2), ∃ p, (p, y) ∈ e :: rest := fun y hy => by
      rcases List.mem_cons.mp hy with rfl | hy
      · exact ⟨e.1, List.mem_cons_self⟩
      · obtain ⟨z, hz, rfl⟩ := List.mem_map.mp hy
        exact ⟨z.1, List.mem_cons_of_mem _ hz⟩
    have okm : ∀ y ∈ e.2 :: rest.map (·.2), Okm fs.length y := fun y hy => by
      obtain ⟨p, hp⟩ := ok y hy
      exact (k1 _ hp).okm
    obtain ⟨m1, m2⟩ := fold_min (rest.map (·.2)) e.2 (okm _ List.mem_cons_self) fun y hy => okm y (List.mem_cons_of_mem _ hy)
    obtain ⟨p, hp⟩ := ok _ m1
    have r := k1 _ hp
    generalize (rest.map (·.2)).foldl minM e.2 = m at *
    have r : Right a1 a2 fs p m := r
    refine ⟨⟨r.good, fun gs hg => ?_⟩, r.sum⟩
    obtain ⟨x, hx, hle⟩ := k2 gs hg
    have hxm : x ∈ e.2 :: rest.map (·.2) := by
      have := kfnd_mem hx
      exact List.mem_map.mpr ⟨_, this, rfl⟩
    have := m2 x hxm
    rw [← r.sum]
    exact Int.le_trans this hle
theorem best_symm {a1 a2 : Int} (h1 : isSize a1) (h2 : isSize a2) (fs : List Field) (hf : ∀ f ∈ fs, isSize f.2) : bestF a1 a2 fs = bestF a2 a1 fs := (best_is h1 h2 fs hf).1.uniq (best_is h2 h1 fs hf).1.symm
end DL
end L2
set_option Elab.async false
set_option linter.all false
set_option maxRecDepth 100000
set_option maxHeartbeats 4000000
/-! plain: all lists of gaps, in their order -/
namespace L2
namespace DL
open PySem PySem.Spec PyProof.Rows
open PySem.W (dataLt dataLe)
def allG : Nat → List (List Int)
  | 0 => [[]]
  | n + 1 => (allG n).flatMap fun r => [0, 1, 2, 3].map fun g => r ++ [g]
theorem mem_allG : ∀ {n : Nat} {gs : List Int}, gs ∈ allG n ↔ gs.length = n ∧ inG gs
  | 0, gs => by
    show gs ∈ [[]] ↔ _
    rw [List.mem_singleton]
    constructor
    · rintro rfl; exact ⟨rfl, inG_nil⟩
    · exact fun h => List.length_eq_zero_iff.mp h.1
  | n + 1, gs => by
    show gs ∈ (allG n).flatMap _ ↔ _
    rw [List.mem_flatMap]
    constructor
    · rintro ⟨r, hr, h⟩
      obtain ⟨g, hg, rfl⟩ := List.mem_map.mp h
      obtain ⟨h1, h2⟩ := mem_allG.mp hr
      exact ⟨by rw [List.length_append, h1]; rfl, inG_snoc.mpr ⟨h2, four_ok g hg⟩⟩
    · rintro ⟨h1, h2⟩
      obtain ⟨r, g, rfl, hl⟩ := len_snoc h1
      obtain ⟨h3, h4⟩ := inG_snoc.mp h2
      exact ⟨r, mem_allG.mpr ⟨hl, h3⟩, List.mem_map.mpr ⟨g, in_four h4, rfl⟩⟩
theorem allG_len : ∀ n, (allG n).length = 4 ^ n
  | 0 => rfl
  | n + 1 => by
    show ((allG n).flatMap _).length = _
    rw [List.length_flatMap, show ((allG n).map fun r => ([0, 1, 2, 3].map fun g => r ++ [g]).length) = (allG n).map fun _ => 4 from rfl]
    rw [List.map_const', List.sum_replicate_nat, allG_len n, Nat.pow_succ]
def pairG (n : Nat) : List Mo := (allG n).map fun r => (r.sum, r)
def sortG (n : Nat) : List (List Int) := ((pairG n).mergeSort (dataLe false moreD)).map (·.2)
theorem mem_sortG {n : Nat} {gs : List Int} : gs ∈ sortG n ↔ gs.length = n ∧ inG gs := by
  unfold sortG
  rw [List.mem_map, ← mem_allG]
  constructor
  · rintro ⟨x, hx, rfl⟩
    obtain ⟨r, hr, rfl⟩ := List.mem_map.mp ((List.mergeSort_perm _ _).mem_iff.mp hx)
    exact hr
  · intro h
    exact ⟨(gs.sum, gs), (List.mergeSort_perm _ _).mem_iff.mpr (List.mem_map.mpr ⟨gs, h, rfl⟩), rfl⟩
theorem sortG_len (n : Nat) : (sortG n).length = 4 ^ n := by
  unfold sortG pairG
  rw [List.length_map, (List.mergeSort_perm _ _).length_eq, List.length_map, allG_len]
theorem sortG_order (n : Nat) : (sortG n).Pairwise fun a b => keyM (a.sum, a) ≤ keyM (b.sum, b) := by
  unfold sortG
  rw [List.pairwise_map]
  refine List.Pairwise.imp_of_mem ?_ (PySem.W.sort_pairwise (PySem.W.sortLe_total _ _ _) (pairG n))
  intro x y hx hy h
  obtain ⟨r, hr, rfl⟩ := List.mem_map.mp ((List.mergeSort_perm _ _).mem_iff.mp hx)
  obtain ⟨r', hr', rfl⟩ := List.mem_map.mp ((List.mergeSort_perm _ _).mem_iff.mp hy)
  obtain ⟨l1, i1⟩ := mem_allG.mp hr
  obtain ⟨l2, i2⟩ := mem_allG.mp hr'
  have h : (!dataLt (moreD (r'.sum, r')) (moreD (r.sum, r))) = true := h
  rw [lt_more (l2.trans l1.symm) i2 i1] at h
  show keyM (r.sum, r) ≤ keyM (r'.sum, r')
  simpa using h
/-- both lay all alike by these gaps -/
def alikeG (a1 a2 : Int) (fs : List Field) (gs : List Int) : Bool := decide ((placesOf a1 fs gs).1 = (placesOf a2 fs gs).1)
theorem find_best {a1 a2 : Int} (h1 : isSize a1) (h2 : isSize a2) (fs : List Field) (hf : ∀ f ∈ fs, isSize f.2) : (sortG fs.length).find? (alikeG a1 a2 fs) = some (bestF a1 a2 fs) := by
  have B := (best_is h1 h2 fs hf).1
  have al : ∀ gs, alikeG a1 a2 fs gs = true ↔ (plRun a1 (fs.zip gs)).2.2 = (plRun a2 (fs.zip gs)).2.2 := fun gs => decide_eq_true_iff
  cases q : (sortG fs.length).find? (alikeG a1 a2 fs) with
  | none =>
    exfalso
    rw [List.find?_eq_none] at q
    exact q _ (mem_sortG.mpr ⟨B.good.len, B.good.inn⟩) ((al _).mpr B.good.eq)
  | some gs =>
    obtain ⟨q1, as, bs, q2, q3⟩ := List.find?_eq_some_iff_append.mp q
    have hm := mem_sortG.mp (show gs ∈ sortG fs.length by rw [q2]; simp)
    have od := sortG_order fs.length
    rw [q2, List.pairwise_append] at od
    have od2 := (List.pairwise_cons.mp od.2.1).1
    have I : IsBest a1 a2 fs gs := ⟨⟨hm.1, hm.2, (al _).mp q1⟩, fun gs' h' => by
      have hm' := mem_sortG.mpr ⟨h'.len, h'.inn⟩
      rw [q2] at hm'
      rcases List.mem_append.mp hm' with z | z
      · exfalso
        have := q3 gs' z
        rw [(al gs').mpr h'.eq] at this
        cases this
      · rcases List.mem_cons.mp z with rfl | z
        · exact Int.le_refl _
        · exact od2 gs' z⟩
    rw [I.uniq B]
end DL
end L2
set_option Elab.async false
set_option linter.all false
set_option maxRecDepth 100000
set_option maxHeartbeats 4000000
namespace L2
namespace DL
namespace Pr
open PySem PySem.Spec PyProof.Rows
def topS (i : Nat) : Stmt := PySem.Challenge.pw_endshare_k03_whole_the_fewest_free.main.body.getD i (.Pass ⟨0, 0, 0, 0⟩)
abbrev s_BadFields_init : Stmt := inClass (topS 2) 0
abbrev N_BadFields_init : List Str := ["self", "number"]
abbrev P_BadFields_init : List Str := ["self", "number"]
theorem sc_BadFields_init : FnScope N_BadFields_init P_BadFields_init (defScope s_BadFields_init) := ⟨rfl, rfl, rfl, by decide +kernel, rfl, by decide +kernel, by decide +kernel⟩
abbrev s_BadHand_init : Stmt := inClass (topS 3) 0
abbrev N_BadHand_init : List Str := ["self", "why"]
abbrev P_BadHand_init : List Str := ["self", "why"]
theorem sc_BadHand_init : FnScope N_BadHand_init P_BadHand_init (defScope s_BadHand_init) := ⟨rfl, rfl, rfl, by decide +kernel, rfl, by decide +kernel, by decide +kernel⟩
abbrev s_is_name : Stmt := topS 11
abbrev N_is_name : List Str := ["text", "sign"]
abbrev P_is_name : List Str := ["text"]
theorem sc_is_name : FnScope N_is_name P_is_name (defScope s_is_name) := ⟨rfl, rfl, rfl, by decide +kernel, rfl, by decide +kernel, by decide +kernel⟩
abbrev s_need_fields : Stmt := topS 12
abbrev N_need_fields : List Str := ["fields", "number", "name", "size", "ahead", "field"]
abbrev P_need_fields : List Str := ["fields"]
theorem sc_need_fields : FnScope N_need_fields P_need_fields (defScope s_need_fields) := ⟨rfl, rfl, rfl, by decide +kernel, rfl, by decide +kernel, by decide +kernel⟩
abbrev s_need_hand : Stmt := topS 13
abbrev N_need_hand : List Str := ["hand", "order", "align", "wide", "way"]
abbrev P_need_hand : List Str := ["hand"]
theorem sc_need_hand : FnScope N_need_hand P_need_hand (defScope s_need_hand) := ⟨rfl, rfl, rfl, by decide +kernel, rfl, by decide +kernel, by decide +kernel⟩
abbrev s_need_gaps : Stmt := topS 14
abbrev N_need_gaps : List Str := ["fields", "gaps", "gap"]
abbrev P_need_gaps : List Str := ["fields", "gaps"]
theorem sc_need_gaps : FnScope N_need_gaps P_need_gaps (defScope s_need_gaps) := ⟨rfl, rfl, rfl, by decide +kernel, rfl, by decide +kernel, by decide +kernel⟩
abbrev s_up_to : Stmt := topS 15
abbrev N_up_to : List Str := ["place", "step"]
abbrev P_up_to : List Str := ["place", "step"]
theorem sc_up_to : FnScope N_up_to P_up_to (defScope s_up_to) := ⟨rfl, rfl, rfl, by decide +kernel, rfl, by decide +kernel, by decide +kernel⟩
abbrev s_places_of : Stmt := topS 16
abbrev N_places_of : List Str := ["fields", "hand", "gaps", "here", "most", "found", "field", "gap", "step"]
abbrev P_places_of : List Str := ["fields", "hand", "gaps"]
theorem sc_places_of : FnScope N_places_of P_places_of (defScope s_places_of) := ⟨rfl, rfl, rfl, by decide +kernel, rfl, by decide +kernel, by decide +kernel⟩
abbrev s_spread : Stmt := topS 17
abbrev N_spread : List Str := ["fields", "hand", "gaps"]
abbrev P_spread : List Str := ["fields", "hand", "gaps"]
theorem sc_spread : FnScope N_spread P_spread (defScope s_spread) := ⟨rfl, rfl, rfl, by decide +kernel, rfl, by decide +kernel, by decide +kernel⟩
abbrev s_filled : Stmt := topS 18
abbrev N_filled : List Str := ["fields", "one", "other", "known", "name", "size", "behind", "steps", "here", "gap", "place", "more"]
abbrev P_filled : List Str := ["fields", "one", "other"]
theorem sc_filled : FnScope N_filled P_filled (defScope s_filled) := ⟨rfl, rfl, rfl, by decide +kernel, rfl, by decide +kernel, by decide +kernel⟩
abbrev s_law_dice : Stmt := topS 20
abbrev N_law_dice : List Str := ["_law_script", "_law_k", "_law_found", "_law_cell"]
abbrev P_law_dice : List Str := ["_law_script", "_law_k"]
theorem sc_law_dice : FnScope N_law_dice P_law_dice (defScope s_law_dice) := ⟨rfl, rfl, rfl, by decide +kernel, rfl, by decide +kernel, by decide +kernel⟩
abbrev s_law_off : Stmt := topS 21
abbrev N_law_off : List Str := ["_law_d", "_law_most", "_law_found"]
abbrev P_law_off : List Str := ["_law_d", "_law_most"]
theorem sc_law_off : FnScope N_law_off P_law_off (defScope s_law_off) := ⟨rfl, rfl, rfl, by decide +kernel, rfl, by decide +kernel, by decide +kernel⟩
abbrev s_law_alike : Stmt := topS 22
abbrev N_law_alike : List Str := ["_law_found", "_law_due", "_law_k"]
abbrev P_law_alike : List Str := ["_law_found", "_law_due"]
theorem sc_law_alike : FnScope N_law_alike P_law_alike (defScope s_law_alike) := ⟨rfl, rfl, rfl, by decide +kernel, rfl, by decide +kernel, by decide +kernel⟩
abbrev s_law_mixed : Stmt := topS 23
abbrev N_law_mixed : List Str := ["_law_d", "_law_row", "_law_left", "_law_found"]
abbrev P_law_mixed : List Str := ["_law_d", "_law_row"]
theorem sc_law_mixed : FnScope N_law_mixed P_law_mixed (defScope s_law_mixed) := ⟨rfl, rfl, rfl, by decide +kernel, rfl, by decide +kernel, by decide +kernel⟩
abbrev s_law_names : Stmt := topS 24
abbrev N_law_names : List Str := ["_law_d", "_law_turn", "_law_signs", "_law_found"]
abbrev P_law_names : List Str := ["_law_d"]
theorem sc_law_names : FnScope N_law_names P_law_names (defScope s_law_names) := ⟨rfl, rfl, rfl, by decide +kernel, rfl, by decide +kernel, by decide +kernel⟩
abbrev s_law_fields : Stmt := topS 25
abbrev N_law_fields : List Str := ["_law_d", "_law_most", "_law_names_here", "_law_k"]
abbrev P_law_fields : List Str := ["_law_d", "_law_most"]
theorem sc_law_fields : FnScope N_law_fields P_law_fields (defScope s_law_fields) := ⟨rfl, rfl, rfl, by decide +kernel, rfl, by decide +kernel, by decide +kernel⟩
abbrev s_law_hand : Stmt := topS 26
abbrev N_law_hand : List Str := ["_law_d", "_law_order"]
abbrev P_law_hand : List Str := ["_law_d"]
theorem sc_law_hand : FnScope N_law_hand P_law_hand (defScope s_law_hand) := ⟨rfl, rfl, rfl, by decide +kernel, rfl, by decide +kernel, by decide +kernel⟩
abbrev s_law_places : Stmt := topS 27
abbrev N_law_places : List Str := ["_law_fields_here", "_law_hand_here", "_law_gaps", "_law_here", "_law_greatest", "_law_found", "_law_k"]
abbrev P_law_places : List Str := ["_law_fields_here", "_law_hand_here", "_law_gaps"]
theorem sc_law_places : FnScope N_law_places P_law_places (defScope s_law_places) := ⟨rfl, rfl, rfl, by decide +kernel, rfl, by decide +kernel, by decide +kernel⟩
abbrev s_law_all_gaps : Stmt := topS 28
abbrev N_law_all_gaps : List Str := ["_law_many", "_law_found", "_law_turn", "_law_longer", "_law_row", "_law_gap", "_law_pair"]
abbrev P_law_all_gaps : List Str := ["_law_many"]
theorem sc_law_all_gaps : FnScope N_law_all_gaps P_law_all_gaps (defScope s_law_all_gaps) := ⟨rfl, rfl, rfl, by decide +kernel, rfl, by decide +kernel, by decide +kernel⟩
abbrev s_law_filled : Stmt := topS 29
abbrev N_law_filled : List Str := ["_law_fields_here", "_law_one", "_law_other", "_law_gaps"]
abbrev P_law_filled : List Str := ["_law_fields_here", "_law_one", "_law_other"]
theorem sc_law_filled : FnScope N_law_filled P_law_filled (defScope s_law_filled) := ⟨rfl, rfl, rfl, by decide +kernel, rfl, by decide +kernel, by decide +kernel⟩
abbrev s_law : Stmt := topS 30
abbrev N_law : List Str := ["_law_script", "_law_d", "_law_fields_here", "_law_one", "_law_other", "_law_turn", "_law_gaps", "_law_gap"]
abbrev P_law : List Str := ["_law_script"]
theorem sc_law : FnScope N_law P_law (defScope s_law) := ⟨rfl, rfl, rfl, by decide +kernel, rfl, by decide +kernel, by decide +kernel⟩
end Pr
end DL
end L2
namespace L2
namespace DL
namespace Pr
open PySem PySem.Spec PyProof.Rows
/-- what the top has written that is no def -/
structure Tx (K : PySem.W.Frag) (mg : Str → Option Value) : Prop where
  len : mg "len" = none
  range : mg "range" = none
  min : mg "min" = none
  max : mg "max" = none
  zip : mg "zip" = none
  enumerate : mg "enumerate" = none
  list : mg "list" = none
  reversed : mg "reversed" = none
  mf : ∃ t, mg "MOST_FIELDS" = some (.int 6 t)
  ml : ∃ t, mg "MOST_LETTERS" = some (.int 6 t)
  le : ∃ t, mg "LETTERS" = some (.str letters t)
  si : ∃ a, mg "SIZES" = some (.ref a) ∧ ∀ H, Dt K H (.ref a) (.tuple [.int 1, .int 2, .int 4])
section
variable {P : Program} {w : World} {K : PySem.W.Frag} {mg : Str → Option Value} {base : Heap}
theorem de_gi {X : Cx} {F : Fm} {g : G} {x : Str} {i : Int} {pos : Pos} (h : ∃ t, X.mg x = some (.int i t)) (hg : Gl X x := by rfl) (hdb : (x == ("__debug__" : Str)) = false := by decide) : DE X F g (.Name x pos) g (.d (.int i)) := by
  obtain ⟨t, h⟩ := h
  exact de_glob (v := .int i) hg h ⟨t, rfl⟩ (fun _ => .int _) hdb
theorem de_gs {X : Cx} {F : Fm} {g : G} {x : Str} {i : Str} {pos : Pos} (h : ∃ t, X.mg x = some (.str i t)) (hg : Gl X x := by rfl) (hdb : (x == ("__debug__" : Str)) = false := by decide) : DE X F g (.Name x pos) g (.d (.str i)) := by
  obtain ⟨t, h⟩ := h
  exact de_glob (v := .str i) hg h ⟨t, rfl⟩ (fun _ => .str _) hdb
theorem de_ga {X : Cx} {F : Fm} {g : G} {x : Str} {d : PyData} {pos : Pos} (h : ∃ a, X.mg x = some (.ref a) ∧ ∀ H, Dt X.K H (.ref a) d) (hg : Gl X x := by rfl) (hdb : (x == ("__debug__" : Str)) = false := by decide) : DE X F g (.Name x pos) g (.d d) := by
  obtain ⟨a, h, h2⟩ := h
  exact de_glob (v := .ref a) hg h rfl h2 hdb
/-! up_to -/
def R_up_to (ds : List PyData) (d : PyData) : Prop := ∃ p s : Int, ds = [.int p, .int s] ∧ 1 ≤ s ∧ s ≤ 1000 ∧ d = .int (upTo' p s)
theorem ok_up_to {f : Addr} {fd : FuncData} (Fn : Fun K "up_to" "up_to" s_up_to f fd) : FnOk P w K mg base CX0 1 f fd P_up_to (spP K R_up_to) := by
  refine okP Fn sc_up_to (by rintro _ _ ⟨p, s, rfl, _⟩; rfl) fun f cdv A outer s H E hr F ds d hM hR => ?_
  obtain ⟨p, s, rfl, h1, h2, rfl⟩ := hR
  refine ds_ret (de_bin (o_mul (.inr ⟨by omega, by omega⟩)) (de_bin (o_fdiv ⟨by omega, by omega⟩) (de_bin o_sub (de_bin o_add (de_var 0) (de_var 1)) de_int) (de_var 1)) (de_var 1)) rfl
/-! is_name -/
def R_is_name (ds : List PyData) (d : PyData) : Prop := ∃ t : Str, ds = [.str t] ∧ t.length ≤ 100000 ∧ d = .bool (isName t)
theorem strOk_1 {c : Nat} (h : c < 0x110000) : PyData.strOk ⟨#[c]⟩ = true := by simp [PyData.strOk, h]
/-- no sign of a text is none of the letters -/
theorem isName_eq {t : Str} : (((decide ((1 : Int) ≤ t.length) && decide ((t.length : Int) ≤ 6)) && PyData.eqv (.list ((t.cps.toList.filter fun c => !decide (c ∈ letters.cps.toList)).map fun c => .str ⟨#[c]⟩)) (.list []))) = isName t := by
  unfold isName
  rw [eqv_nil]
  congr 1
  rw [List.isEmpty_map, Bool.eq_iff_iff, List.isEmpty_iff, List.filter_eq_nil_iff, List.all_eq_true]
  simp
theorem ok_is_name {f : Addr} {fd : FuncData} (Fn : Fun K "is_name" "is_name" s_is_name f fd) (T : Tx K mg) : FnOk P w K mg base CX0 1 f fd P_is_name (spP K fun ds d => R_is_name ds d ∧ ∀ t, ds = [.str t] → PyData.strOk t = true) := by
  refine okP Fn sc_is_name (by rintro _ _ ⟨⟨t, rfl, _⟩, _⟩; rfl) fun f cdv A outer s H E hr F ds d hM hR => ?_
  obtain ⟨⟨t, rfl, ht, rfl⟩, hok⟩ := hR
  have hok := hok t rfl
  have hcp : ∀ c ∈ t.cps.toList, c < 0x110000 := fun c hc => by
    unfold PyData.strOk at hok
    rw [← Array.all_toList, List.all_eq_true] at hok
    simpa using hok c hc
  refine ds_ret (de_is (de_and (de_chain o_le o_le de_int (de_callB (cd_lenS (Nat.le_trans ht (by decide))) T.len (dad_cons (de_var 0) dad_nil)) fun _ => de_gi T.ml) fun _ => de_one (de_cmp (o_eqD hr.units (pl_list (pl_map fun c hc => pl_str (n := 1) (strOk_1 (hcp c (List.mem_filter.mp hc).1)))).sh rfl)
    (de_share (dn_lcF (own := [("sign", 1)]) (enc := fun c => .str ⟨#[c]⟩) (xs := t.cps.toList) (p := fun c => !decide (c ∈ letters.cps.toList)) (f := fun c => .str ⟨#[c]⟩) sc_is_name.nd (di_str (de_var 0)) (fun c hc => ⟨_, _, fun _ _ _ _ _ _ => dg_name 1 sc_is_name.nd, by simp, fun _ _ _ _ _ _ => dts_one (dt_cmp o_notInSign (de_var 1) (de_gs T.le)), fun _ _ _ _ _ _ _ => de_var 1⟩) (by simpa [Str.length] using ht) (blkOk_by (N := N_is_name) (sc := defScope s_is_name) (by decide +kernel)))) (de_lst dad_nil))) ?_) rfl
  rw [isName_eq]
theorem isName_strOk {t : Str} (h : isName t = true) : PyData.strOk t = true := by
  unfold isName at h
  rw [Bool.and_eq_true, List.all_eq_true] at h
  unfold PyData.strOk
  rw [← Array.all_toList, List.all_eq_true]
  intro c hc
  have := of_decide_eq_true (h.2 c hc)
  have hl : ∀ c ∈ letters.cps.toList, c < 0x110000 := by decide +kernel
  simpa using hl c this
/-! need_fields -/
def R_need_fields (ds : List PyData) (d : PyData) : Prop := ∃ fs : List Field, ds = [encFs fs] ∧ ValidFs fs ∧ d = .none
abbrev R_isn (ds : List PyData) (d : PyData) : Prop := R_is_name ds d ∧ ∀ t, ds = [.str t] → PyData.strOk t = true
theorem cut_take {α : Type} (xs : List α) (i : Nat) : cutL xs none (some (i : Int)) = xs.take i := by
  unfold cutL
  rw [HT.sIx_none, HT.sIx_nat, List.drop_zero, Nat.sub_zero]
  by_cases h : i ≤ xs.length
  · rw [Nat.min_eq_left h]
  · rw [Nat.min_eq_right (by omega), List.take_length, List.take_of_length_le (by omega)]
theorem ok_need_fields {f : Addr} {fd : FuncData} (Fn : Fun K "need_fields" "need_fields" s_need_fields f fd) (T : Tx K mg) (C : Cal P w K mg base 1 "is_name" (spP K R_isn)) : FnOk P w K mg base CX0 2 f fd P_need_fields (spP K R_need_fields) := by
  have nd := sc_need_fields.nd
  refine okP Fn sc_need_fields (by rintro _ _ ⟨fs, rfl, _⟩; rfl) fun f cdv A outer s H E hr F ds d hM hR => ?_
  obtain ⟨fs, rfl, hv, rfl⟩ := hR
  have h1 := hv.pos
  have h6 := hv.most
  refine ds_ifx (k := false) (dt_is (dt_cmp o_eq (de_callB cd_lenL T.len (dad_cons (de_var 0) dad_nil)) de_int) (by rw [List.length_map]; exact decide_eq_false (by omega))) (fun h => nomatch h) fun _ => ?_
  refine ds_for (fun i g => ∃ a b c d, g = ⟨[.d (encFs fs), a, b, c, d, .u], []⟩) PassesOwn.never rfl (di_range1 T.range (de_callB cd_lenL T.len (dad_cons (de_var 0) dad_nil)) (by rw [List.length_map]; omega)) ⟨_, _, _, _, rfl⟩ ?_ fun gn _ => ds_nil rfl
  rintro F' i d gi hd ⟨a, b, c, e, rfl⟩
  obtain ⟨hi, rfl⟩ := upTo_get hd
  rw [Int.toNat_natCast, List.length_map] at hi
  have hf : (fs.map encF)[i]? = some (encF fs[i]) := by rw [List.getElem?_map, List.getElem?_eq_getElem hi]; rfl
  obtain ⟨k1, k2⟩ := hv.ok _ (List.getElem_mem hi)
  refine ⟨_, _, dg_name 1 nd, ?_⟩
  rw [Int.zero_add]
  refine ds_asg (de_ixL (de_var 0) (de_var 1) (atI_nat hf)) (dg_tup rfl (dgs_cons (dg_name 2 nd) (dgs_cons (dg_name 3 nd) dgs_nil))) ?_
  refine ds_lcM 4 (own := [("field", 5)]) (enc := encF) (xs := fs.take i) (f := fun f => .str f.1) nd (di_list (de_is (de_share (dn_slL (de_var 0) dp_none (dp_some (de_var 1)))) (by rw [cut_take, List.map_take])))
    (fun f hf => ⟨_, _, fun _ _ _ _ _ _ => dg_name 5 nd, by simp, fun _ _ _ _ _ _ => de_ixT (de_var 5) de_int rfl⟩) (by rw [List.length_take]; omega) (blkOk_by (N := N_need_fields) (sc := defScope s_need_fields) (by decide +kernel)) (fun p hpM _ => ?_) (sw_true rfl rfl rfl (by decide +kernel))
  refine ds_share 4 0 rfl rfl hpM ?_
  refine ds_ifx (k := false) (dt_is (dt_w (dw_or (dt_cmp o_ge (de_var 1) (de_gi T.mf)) fun _ => dw_or (dt_not (dt_val (de_call C hr (dad_cons (de_var 2) dad_nil) ⟨⟨_, rfl, Nat.le_trans (isName_len k1) (by decide), rfl⟩, fun t e => by cases e; exact isName_strOk k1⟩))) fun _ => dw_or (dt_cmp (o_inL rfl rfl (all_flat (fun _ => rfl) _)) (de_var 2) (de_var 4)) fun _ => dw_or1 (dt_cmp (o_notInT rfl rfl rfl) (de_var 3) (de_ga T.si)))) ?_) (fun h => nomatch h) fun _ => ds_nil ⟨_, _, _, _, rfl⟩
  have e1 : decide ((6 : Int) ≤ (i : Int)) = false := decide_eq_false (by omega)
  have e2 : inV (fl (.str fs[i].1)) (((fs.take i).map fun f => PyData.str f.1).map fl) = false := by
    rw [List.map_map, show (fl ∘ fun f : Field => PyData.str f.1) = (V.str ∘ fun f : Field => f.1) from rfl, ← List.map_map]
    show inV (.str fs[i].1) _ = false
    rw [inV_strs]
    refine decide_eq_false fun m => ?_
    rw [List.map_take] at m
    obtain ⟨j, hj⟩ := List.mem_iff_getElem?.mp m
    rw [List.getElem?_take] at hj
    split at hj
    · rename_i hji
      have := nd_ix hv.nd hj (show (fs.map (·.1))[i]? = some fs[i].1 by rw [List.getElem?_map, List.getElem?_eq_getElem hi]; rfl)
      omega
    · cases hj
  have e3 : inV (fl (.int fs[i].2)) ([PyData.int 1, .int 2, .int 4].map fl) = true := by
    show inV (.int fs[i].2) ([1, 2, 4].map V.int) = true
    rw [inV_ints]
    rcases k2 with k | k | k <;> rw [k] <;> decide
  rw [e1, k1, e2, e3]
  rfl
end
end Pr
end DL
end L2
namespace L2
namespace DL
namespace Pr
open PySem PySem.Spec PyProof.Rows
section
variable {P : Program} {w : World} {K : PySem.W.Frag} {mg : Str → Option Value} {base : Heap}
/-! need_hand -/
def R_need_hand (ds : List PyData) (d : PyData) : Prop := ∃ h : Hand, ds = [encH h] ∧ ValidH h ∧ d = .none
theorem inSizes {n : Int} (h : isSize n) : inV (fl (.int n)) ([PyData.int 1, .int 2, .int 4].map fl) = true := by
  show inV (.int n) ([1, 2, 4].map V.int) = true
  rw [inV_ints]
  rcases h with k | k | k <;> rw [k] <;> decide
theorem ok_need_hand {f : Addr} {fd : FuncData} (Fn : Fun K "need_hand" "need_hand" s_need_hand f fd) (T : Tx K mg) : FnOk P w K mg base CX0 1 f fd P_need_hand (spP K R_need_hand) := by
  have nd := sc_need_hand.nd
  refine okP Fn sc_need_hand (by rintro _ _ ⟨h, rfl, _⟩; rfl) fun f cdv A outer s H E hr F ds d hM hR => ?_
  obtain ⟨h, rfl, hv, rfl⟩ := hR
  refine ds_asg (de_var 0) (dg_tup rfl (dgs_cons (dg_name 1 nd) (dgs_cons (dg_name 2 nd) (dgs_cons (dg_name 3 nd) (dgs_cons (dg_name 4 nd) dgs_nil))))) ?_
  have e1 : inV (fl (.str (sOrd h.great))) ([PyData.str "great", .str "small"].map fl) = true := by
    show inV (.str (sOrd h.great)) ((["great", "small"] : List Str).map V.str) = true
    rw [inV_strs]
    cases h.great <;> decide
  have e4 : inV (fl (.str (sWay h.up))) ([PyData.str "up", .str "down"].map fl) = true := by
    show inV (.str (sWay h.up)) ((["up", "down"] : List Str).map V.str) = true
    rw [inV_strs]
    cases h.up <;> decide
  refine ds_ifx (k := false) (dt_is (dt_cmp (o_notInT rfl rfl rfl) (de_var 1) (de_tup (dad_cons de_str (dad_cons de_str dad_nil)))) (by rw [e1]; rfl)) (fun h => nomatch h) fun _ => ?_
  refine ds_ifx (k := false) (dt_is (dt_cmp (o_notInT rfl rfl rfl) (de_var 2) (de_ga T.si)) (by rw [inSizes hv.al]; rfl)) (fun h => nomatch h) fun _ => ?_
  refine ds_ifx (k := false) (dt_is (dt_cmp (o_notInT rfl rfl rfl) (de_var 3) (de_ga T.si)) (by rw [inSizes hv.wi]; rfl)) (fun h => nomatch h) fun _ => ?_
  exact ds_ifx (k := false) (dt_is (dt_cmp (o_notInT rfl rfl rfl) (de_var 4) (de_tup (dad_cons de_str (dad_cons de_str dad_nil)))) (by rw [e4]; rfl)) (fun h => nomatch h) fun _ => ds_nil rfl
/-! places_of -/
def R_places_of (ds : List PyData) (d : PyData) : Prop := ∃ (fs : List Field) (h : Hand) (gs : List Int), ds = [encFs fs, encH h, encI gs] ∧ (∀ f ∈ fs, isSize f.2) ∧ fs.length ≤ 1000 ∧ isSize h.align ∧ gs.length = fs.length ∧ d = .tuple [encI (placesOf h.align fs gs).1, .int (placesOf h.align fs gs).2]
theorem zipD_eq (fs : List Field) (gs : List Int) : zipD (fs.map encF) (gs.map .int) = (fs.zip gs).map fun x => .tuple [encF x.1, .int x.2] := by
  unfold zipD
  rw [List.zip_map, List.map_map]
  rfl
theorem ints_d (l : List Int) : (l.map PyData.int).map Sl.d = l.map fun i => .d (.int i) := by rw [List.map_map]; rfl
theorem plRun_size {al : Int} (hal : isSize al) : ∀ l : List (Field × Int), (∀ x ∈ l, isSize x.1.2) → isSize (plRun al l).2.1 ∧ (plRun al l).2.2.length = l.length := by
  intro l
  induction l using rev_ind with
  | h0 => intro _; exact ⟨.inl rfl, rfl⟩
  | h1 l x ih =>
    intro h
    obtain ⟨h3, h4⟩ := ih fun y hy => h y (List.mem_append_left _ hy)
    have x1 := h x (by simp)
    have e : plRun al (l ++ [x]) = plStep al (plRun al l) x := by unfold plRun; rw [List.foldl_append]; rfl
    rw [e]
    have hst : isSize (min x.1.2 al) := by rcases x1 with a | a | a <;> rcases hal with b | b | b <;> rw [a, b] <;> decide
    refine ⟨?_, by show ((plRun al l).2.2 ++ [_]).length = _; simp [h4]⟩
    show isSize (max (plRun al l).2.1 (min x.1.2 al))
    rcases h3 with a | a | a <;> rcases hst with b | b | b <;> rw [a, b] <;> decide
theorem ok_places_of {f : Addr} {fd : FuncData} (Fn : Fun K "places_of" "places_of" s_places_of f fd) (T : Tx K mg) (C : Cal P w K mg base 1 "up_to" (spP K R_up_to)) : FnOk P w K mg base CX0 2 f fd P_places_of (spP K R_places_of) := by
  have nd := sc_places_of.nd
  refine okP Fn sc_places_of (by rintro _ _ ⟨fs, h, gs, rfl, _⟩; rfl) fun f cdv A outer s H E hr F ds d hM hR => ?_
  obtain ⟨fs, h, gs, rfl, hfs, hz, hal, hl, rfl⟩ := hR
  refine ds_set 3 nd de_int ?_
  refine ds_set 4 nd de_int ?_
  refine ds_new 5 nd (dn_lst da_nil) fun p hpM _ => ?_
  refine ds_for (fun i g => ∃ a b c, g = ⟨[.d (encFs fs), .d (encH h), .d (encI gs), .d (.int (plRun h.align ((fs.zip gs).take i)).1), .d (.int (plRun h.align ((fs.zip gs).take i)).2.1), .v (.ref p), a, b, c], [(p, .lst (((plRun h.align ((fs.zip gs).take i)).2.2.map .int).map .d))]⟩)
    PassesOwn.never rfl (di_zip T.zip (de_var 0) (de_var 2)) ⟨_, _, _, rfl⟩ ?_ ?_
  · rintro F' i d gi hd ⟨a, b, c, rfl⟩
    rw [zipD_eq, List.getElem?_map] at hd
    cases hx : (fs.zip gs)[i]? with
    | none => rw [hx] at hd; cases hd
    | some x =>
      rw [hx] at hd
      cases hd
      have hx1 : isSize x.1.2 := hfs _ (List.of_mem_zip (List.mem_of_getElem? hx)).1
      have hst : isSize (min x.1.2 h.align) := by rcases hx1 with a | a | a <;> rcases hal with b | b | b <;> rw [a, b] <;> decide
      obtain ⟨s1, s2⟩ := hst.pos
      have hlen : (plRun h.align ((fs.zip gs).take i)).2.2.length ≤ 1000 := by
        rw [(plRun_size hal _ fun y hy => hfs _ (List.of_mem_zip (List.mem_of_mem_take hy)).1).2, List.length_take, List.length_zip]
        omega
      refine ⟨_, _, dg_tup rfl (dgs_cons (dg_name 6 nd) (dgs_cons (dg_name 7 nd) dgs_nil)), ?_⟩
      refine ds_set 8 nd (de_callB cd_min2 T.min (dad_cons (de_ixT (de_var 6) de_int rfl) (dad_cons (de_ixT (de_var 1) de_int rfl) dad_nil))) ?_
      refine ds_set 4 nd (de_callB cd_max2 T.max (dad_cons (de_var 4) (dad_cons (de_var 8) dad_nil))) ?_
      refine ds_expr (de_append (j := 0) (de_varV 5) (de_call C hr (dad_cons (de_bin o_add (de_var 3) (de_var 7)) (dad_cons (de_var 8) dad_nil)) ⟨_, _, rfl, s1, by omega, rfl⟩) rfl rfl (by rw [List.length_map, List.length_map]; omega)) ?_
      refine ds_set 3 nd (de_bin o_add (de_ixO (j := 0) (n := (plRun h.align ((fs.zip gs).take i)).2.2.length) (r := .d (.int (upTo' ((plRun h.align ((fs.zip gs).take i)).1 + x.2) (min x.1.2 h.align)))) (de_varV 5) (de_un_neg de_int) rfl ?_ ?_ (by simp)) (de_ixT (de_var 6) de_int rfl)) ?_
      · simp [ixN]; omega
      · rw [List.getElem?_append_right (by simp)]
        simp
      · refine ds_nil ?_
        show ∃ a b c, _ = _
        rw [plRun_take hx]
        simp only [plStep, List.map_append, List.map_cons, List.map_nil]
        exact ⟨_, _, _, rfl⟩
  · rintro gn ⟨a, b, c, rfl⟩
    have hn : (zipD (fs.map encF) (gs.map .int)).length = (fs.zip gs).length := by rw [zipD_eq, List.length_map]
    rw [hn, List.take_length]
    refine ds_share 5 0 rfl rfl hpM ?_
    obtain ⟨z1, z2⟩ := (plRun_size hal (fs.zip gs) fun y hy => hfs _ (List.of_mem_zip hy).1).1.pos
    exact ds_ret (de_tup (dad_cons (de_var 5) (dad_cons (de_call C hr (dad_cons (de_var 3) (dad_cons (de_var 4) dad_nil)) ⟨_, _, rfl, z1, by omega, rfl⟩) dad_nil))) rfl
end
end Pr
end DL
end L2
namespace L2
namespace DL
namespace Pr
open PySem PySem.Spec PyProof.Rows
section
variable {P : Program} {w : World} {K : PySem.W.Frag} {mg : Str → Option Value} {base : Heap}
/-! laid -/
def R_laid (ds : List PyData) (d : PyData) : Prop := ∃ (fs : List Field) (h : Hand), ds = [encFs fs, encH h] ∧ ValidFs fs ∧ ValidH h ∧ d = .tuple [encI (laidF h.align fs).1, .int (laidF h.align fs).2]
/-! need_memory -/
def R_need_memory (ds : List PyData) (d : PyData) : Prop := ∃ m : List Int, ds = [encI m, .int m.length] ∧ digits m ∧ d = .none
/-! need_name -/
def R_need_name (ds : List PyData) (d : PyData) : Prop := ∃ (fs : List Field) (k : Nat) (f : Field), ds = [encFs fs, .str f.1] ∧ (fs.map (·.1)).Nodup ∧ fs[k]? = some f ∧ d = .int (k : Nat)
/-! need_number -/
def R_need_number (ds : List PyData) (d : PyData) : Prop := ∃ n size : Int, ds = [.int n, .int size] ∧ isSize size ∧ 0 ≤ n ∧ n < 10 ^ size.toNat ∧ d = .none
/-! cells_of -/
def R_cells_of (ds : List PyData) (d : PyData) : Prop := ∃ (n size : Int) (g : Bool), ds = [.int n, .int size, .str (sOrd g)] ∧ isSize size ∧ d = encI (cellsF n size g)
theorem sOrd_eq (g : Bool) : decide (sOrd g = ("small" : Str)) = !g := by cases g <;> decide
theorem sOrd_eqG (g : Bool) : decide (sOrd g = ("great" : Str)) = g := by cases g <;> decide
/-! number_of -/
def R_number_of (ds : List PyData) (d : PyData) : Prop := ∃ (cs : List Int) (g : Bool), ds = [encI cs, .str (sOrd g)] ∧ d = .int (numF cs g)
theorem valG_take {cs : List Int} {i : Nat} {c : Int} (h : cs[i]? = some c) : valG (cs.take (i + 1)) = valG (cs.take i) * 10 + c := by
  rw [List.take_add_one, h]
  exact valG_snoc _ _
end
end Pr
end DL
end L2
namespace L2
namespace DL
namespace Pr
open PySem PySem.Spec PyProof.Rows
/-- .. more of the top -/
structure Ty (K : PySem.W.Frag) (mg : Str → Option Value) : Prop extends Tx K mg where
  abs : mg "abs" = none
  isinstance : mg "isinstance" = none
  boolT : mg "bool" = none
  intT : mg "int" = none
  strT : mg "str" = none
  tupleT : mg "tuple" = none
  all : mg "all" = none
section
variable {P : Program} {w : World} {K : PySem.W.Frag} {mg : Str → Option Value} {base : Heap}
/-! dice -/
def spDc (K : PySem.W.Frag) : Sp := fun vs H Q _ => ∃ (a : Addr) (ns : List Int) (k : Int), vs = [.ref a, .int k] ∧ SqL K H a (ns.map V.int) ∧ ns.length ≤ 63 ∧ ∀ (p : Addr) (l : List Int) (H' : Hp), H p = none → Same H H' → H' p = some (.lst (l.map V.int)) → Dc l → Q (.ref p) H'
theorem ok_dice {f : Addr} {fd : FuncData} (Fn : Fun K "_law_dice" "_law_dice" s_law_dice f fd) (T : Ty K mg) : FnOk P w K mg base CX0 1 f fd P_law_dice (spDc K) := by
  have nd := sc_law_dice.nd
  refine Fn.ok sc_law_dice (fun vs H Q E ⟨a, ns, k, e, _⟩ => by rw [e]; rfl) (fun cdv A outer s H vs Q E hr ⟨a, ns, k, e, hq, hl, q⟩ => ?_)
  subst e
  have main : DS (Xc P w K mg base N_law_dice "_law_dice" (defScope s_law_dice) f cdv A outer s H E) ⟨[], H, []⟩ ⟨[.v (.ref a), .d (.int k), .u, .u], []⟩ (defBody s_law_dice) ⟨fun _ => False, fun g r => ∃ (p : Addr) (l : List Int), r = .v (.ref p) ∧ (p, intsO l) ∈ g.ow ∧ Dc l, fun _ => False, fun _ => False, fun _ _ _ => False⟩ := by
    refine ds_set 2 nd (de_var 1) ?_
    refine ds_for (fun i g => ∃ n a' , g = ⟨[.v (.ref a), .d (.int k), .d (.int n), a'], []⟩) PassesOwn.never rfl (di_script 0 hq rfl rfl) ⟨_, _, rfl⟩ ?_ ?_
    · rintro F' i d gi hd ⟨n, a', rfl⟩
      rw [List.getElem?_map] at hd
      cases hc : ns[i]? with
      | none => rw [hc] at hd; cases hd
      | some c =>
        rw [hc] at hd
        cases hd
        refine ⟨_, _, dg_name 3 nd, ?_⟩
        exact ds_set 2 nd (de_bin (o_mod (by decide)) (de_bin o_add (de_bin (o_mul (.inr ⟨by decide, by decide⟩)) (de_var 2) de_int) (de_callB cd_abs T.abs (dad_cons (de_var 3) dad_nil))) de_int) (ds_nil ⟨_, _, rfl⟩)
    · rintro gn ⟨n, a', rfl⟩
      refine ds_retn (dn_cat (de_lst (dad_cons (de_var 2) (dad_cons de_int dad_nil))) (de_share (dn_lcF (own := [("_law_cell", 3)]) (enc := .int) (xs := ns) (p := fun x => decide ((10 : Int) ^ (18 : Int).toNat ≤ x)) (f := .int) nd (di_script 0 hq rfl rfl) (fun c hc => ⟨_, _, fun _ _ _ _ _ _ => dg_name 3 nd, by simp, fun _ _ _ _ _ _ => dts_one (dt_cmp o_ge (de_var 3) (de_bin (o_pow ⟨by decide, by decide, by decide⟩) de_int de_int)), fun _ _ _ _ _ _ _ => de_var 3⟩) (by omega) (blkOk_by (N := N_law_dice) (sc := defScope s_law_dice) (by decide +kernel)))) (by
        have := List.length_filter_le (fun x => decide ((10 : Int) ^ (18 : Int).toNat ≤ x)) ns
        rw [List.length_map]
        show 2 + _ ≤ _
        omega)) fun p _ _ => ⟨p, [n, 0] ++ ns.filter fun x => decide ((10 : Int) ^ (18 : Int).toNat ≤ x), rfl, ?_, ?_⟩
      · simp [intsO]
      · have := List.length_filter_le (fun x => decide ((10 : Int) ^ (18 : Int).toNat ≤ x)) ns
        refine ⟨by simp, ?_⟩
        rw [List.length_append]
        show 2 + _ ≤ _
        omega
  refine ⟨_, pss_s, main _ H _ ?_ ?_⟩
  · exact ⟨.cons rfl (.cons (Dt.int k) (.cons trivial (.cons trivial .nil))), fun p hp => absurd hp (by simp), List.nodup_nil, fun b o e _ => e, fun a m => absurd m (by simp), fun a m => absurd m (by simp), fun a m => absurd m (by simp)⟩
  · refine ⟨fun g σ H' e s' => e.elim, fun g r σ v H' ⟨p, l, e, hj, hl⟩ s' k' => ?_, fun _ _ _ h => h.elim, fun _ _ _ h => h.elim, fun _ _ _ _ _ _ h => h.elim⟩
    subst e
    have e : some v = some (V.ref p) := k'
    cases e
    obtain ⟨o, o1, o2⟩ := s'.ow _ hj
    have eo : o = .lst (l.map V.int) := ints_is o2
    subst eo
    refine q p l H' ?_ (fun b o e' => s'.ex b o e' (by simp)) o1 hl
    rcases s'.fr p (List.mem_map.mpr ⟨_, hj, rfl⟩) with y | y
    · exact y
    · simp at y
/-! off -/
def R_off (l : List Int) (ds : List PyData) (l' : List Int) (d : PyData) : Prop := ∃ m : Int, ds = [.int m] ∧ Dc l ∧ 0 < m ∧ m ≤ 1000000 ∧ l' = (off l m).2 ∧ d = .int (off l m).1
theorem atI_getD {l : List Int} {i : Nat} (h : i < l.length) : atI l (i : Int) = some (l.getD i 0) := atI_nat (by rw [List.getD_eq_getElem?_getD, List.getElem?_eq_getElem h]; rfl)
theorem ints_set (l : List Int) (i : Nat) (v : Int) : ((l.map PyData.int).map Sl.d).set i (.d (.int v)) = ((l.set i v).map PyData.int).map Sl.d := by
  rw [List.map_set, List.map_set]
theorem ints_erase (l : List Int) (i : Nat) : ((l.map PyData.int).map Sl.d).eraseIdx i = ((l.eraseIdx i).map PyData.int).map Sl.d := by
  rw [map_erase, map_erase]
theorem ints_get {l : List Int} {i : Nat} (h : i < l.length) : ((l.map PyData.int).map Sl.d)[i]? = some (.d (.int (l.getD i 0))) := by
  rw [List.getElem?_map, List.getElem?_map, List.getElem?_eq_getElem h, List.getD_eq_getElem?_getD, List.getElem?_eq_getElem h]
  rfl
theorem ixN_nat {n i : Nat} (h : i < n) : ixN n (i : Int) = some i := by
  unfold ixN
  rw [if_pos (by omega), if_pos (by omega)]
  simp
theorem seqIx_nat {n i : Nat} (h : i < n) : seqIndex? (i : Int) n = some i := (ixN_seq (ixN_nat h)).1
theorem ok_off {f : Addr} {fd : FuncData} (Fn : Fun K "_law_off" "_law_off" s_law_off f fd) (T : Ty K mg) : FnOk P w K mg base CX0 1 f fd P_law_off (spM K R_off) := by
  have nd := sc_law_off.nd
  refine okM Fn sc_law_off (by rintro _ _ _ _ ⟨m, rfl, _⟩; rfl) fun f cdv A outer s H E hr F p l ds l' d hR => ?_
  obtain ⟨m, rfl, hD, h0, h1, rfl, rfl⟩ := hR
  have h2 := hD.1
  -- behind the first if
  have two : ∀ F l1 (a : Sl), 2 ≤ l1.length → off1 l = l1 → DS (Xc P w K mg base N_law_off "_law_off" (defScope s_law_off) f cdv A outer s H E) F ⟨[.v (.ref p), .d (.int m), a], [(p, intsO l1)]⟩ ((defBody s_law_off).drop 1) ⟨fun _ => False, fun g r => r = .d (.int (off l m).1) ∧ (p, intsO (off l m).2) ∈ g.ow, fun _ => False, fun _ => False, fun _ _ _ => False⟩ := fun F l1 a h2 e1 => by
    have i1 : atI l1 ((1 : Nat) : Int) = some (l1.getD 1 0) := atI_getD (by omega)
    have i0 : atI l1 ((0 : Nat) : Int) = some (l1.getD 0 0) := atI_getD (by omega)
    refine ds_ifx (dt_cmp o_gt (de_ixI (j := 0) (de_varV 0) de_int rfl i1) de_int) (fun h => ?_) fun h => ?_
    · have h := of_decide_eq_true h
      refine ds_set 2 nd (de_bin (o_mod h0) (de_ixI (j := 0) (de_varV 0) de_int rfl i1) (de_var 1)) ?_
      refine ds_setIx (j := 0) (n := 1) (de_bin (o_fdiv ⟨h0, by omega⟩) (de_ixI (j := 0) (de_varV 0) de_int rfl i1) (de_var 1)) (de_varV 0) de_int rfl (by rw [List.length_map, List.length_map]; exact ixN_nat (i := 1) (by omega)) ?_
      refine ds_ret (de_var 2) ⟨?_, ?_⟩
      · unfold off; rw [e1, if_pos h]
      · unfold off; rw [e1, if_pos h]
        show _ ∈ [_]
        rw [ints_set]
        exact List.mem_singleton.mpr rfl
    · have h := of_decide_eq_false h
      refine ds_setIx (j := 0) (n := 0) (de_bin (o_mod (by decide)) (de_bin o_add (de_bin (o_mul (.inr ⟨by decide, by decide⟩)) (de_ixI (j := 0) (de_varV 0) de_int rfl i0) de_int) de_int) de_int) (de_varV 0) de_int rfl (by rw [List.length_map, List.length_map]; exact ixN_nat (i := 0) (by omega)) ?_
      refine ds_eqG (g' := ⟨[.v (.ref p), .d (.int m), a], [(p, intsO (l1.set 0 ((l1.getD 0 0 * 48271 + 11) % 2147483647)))]⟩) ?_ ?_
      · show (⟨_, [_]⟩ : G) = _
        rw [ints_set]
      · have i0' : atI (l1.set 0 ((l1.getD 0 0 * 48271 + 11) % 2147483647)) ((0 : Nat) : Int) = some ((l1.getD 0 0 * 48271 + 11) % 2147483647) := atI_nat (by rw [List.getElem?_set_self (by omega)])
        refine ds_ret (de_bin (o_mod h0) (de_bin (o_fdiv ⟨by decide, by decide⟩) (de_ixI (j := 0) (de_varV 0) de_int rfl i0') de_int) (de_var 1)) ⟨?_, ?_⟩
        · unfold off; rw [e1, if_neg h]
        · unfold off; rw [e1, if_neg h]; exact List.mem_singleton.mpr rfl
  refine ds_if (k := decide (l.getD 1 0 = 0 ∧ 2 < l.length)) (dt_is (dt_w (dw_and (dt_cmp o_eq (de_ixI (j := 0) (de_varV 0) de_int rfl (atI_getD (i := 1) (by omega))) de_int) fun _ => dw_and1 (dt_borrow (bor_set 0 0 rfl rfl bor_refl) fun F' hM => dt_cmp o_gt (de_callB cd_lenL T.len (dad_cons (de_var 0) dad_nil)) de_int))) ?_) (fun h => ?_) fun h => ?_
  · rw [List.length_map]
    by_cases a : l.getD 1 0 = 0 <;> by_cases b : 2 < l.length <;> simp [a, b] <;> omega
  · have h := of_decide_eq_true h
    have g2 := ints_get (l := l) (i := 2) h.2
    refine ds_setIx (j := 0) (n := 1) (de_popAt (j := 0) (n := 2) (de_varV 0) de_int rfl rfl (by rw [List.length_map, List.length_map]; exact seqIx_nat h.2) g2 (by decide)) (de_varV 0) de_int rfl (by
      rw [List.length_eraseIdx, List.length_map, List.length_map, if_pos h.2]; exact ixN_nat (i := 1) (by omega)) ?_
    refine ds_nil ?_
    have e : off1 l = (l.eraseIdx 2).set 1 (l.getD 2 0) := by unfold off1; rw [if_pos h]
    have := two F _ .u (by rw [List.length_set, List.length_eraseIdx, if_pos h.2]; omega) e
    unfold intsO at this
    rw [← ints_set, ← ints_erase] at this
    exact this
  · have h := of_decide_eq_false h
    exact ds_nil (two F l .u h2 (by unfold off1; rw [if_neg h]))
end
end Pr
end DL
end L2
namespace L2
namespace DL
namespace Pr
open PySem PySem.Spec PyProof.Rows
section
variable {P : Program} {w : World} {K : PySem.W.Frag} {mg : Str → Option Value} {base : Heap}
/-! mixed -/
def R_mixed (l : List Int) (ds : List PyData) (l' : List Int) (d : PyData) : Prop := ∃ xs : List PyData, ds = [.list xs] ∧ Dc l ∧ xs.length ≤ 1000 ∧ (∀ x ∈ xs, Pl 60 x) ∧ l' = (mixed xs.length l xs).1 ∧ d = .list (mixed xs.length l xs).2
theorem mixed_succ {α : Type} {n : Nat} {l : List Int} {xs : List α} {x : α} (h : xs[(off l xs.length).1.toNat]? = some x) : mixed (n + 1) l xs = ((mixed n (off l xs.length).2 (xs.eraseIdx (off l xs.length).1.toNat)).1, x :: (mixed n (off l xs.length).2 (xs.eraseIdx (off l xs.length).1.toNat)).2) := by
  show (match xs[(off l xs.length).1.toNat]? with | none => _ | some x => _) = _
  rw [h]
theorem isEmpty_len {α : Type} {xs : List α} (h : 0 < xs.length) : xs.isEmpty = false := by cases xs with | nil => cases h | cons _ _ => rfl
theorem ok_mixed {f : Addr} {fd : FuncData} (Fn : Fun K "_law_mixed" "_law_mixed" s_law_mixed f fd) (T : Ty K mg) (C : Cal P w K mg base 1 "_law_off" (spM K R_off)) : FnOk P w K mg base CX0 2 f fd P_law_mixed (spM K R_mixed) := by
  have nd := sc_law_mixed.nd
  refine okM Fn sc_law_mixed (by rintro _ _ _ _ ⟨m, rfl, _⟩; rfl) fun f cdv A outer s H E hr F p l ds l' d hR => ?_
  obtain ⟨xs, rfl, hD, hz, hp, rfl, rfl⟩ := hR
  refine ds_new 2 nd (dn_listOf (.inl rfl) T.list (dad_cons (de_var 1) dad_nil)) fun q hqM _ => ?_
  refine ds_new 3 nd (dn_lst da_nil) fun r hrM _ => ?_
  refine ds_while (fun m g => ∃ l1 left found, g = ⟨[.v (.ref p), .d (.list xs), .v (.ref q), .v (.ref r)], [(p, intsO l1), (q, .lst (left.map .d)), (r, .lst (found.map .d))]⟩ ∧ left.length = m ∧ found.length + m = xs.length ∧ Dc l1 ∧ (∀ x ∈ left, Pl 60 x) ∧ (mixed m l1 left).1 = (mixed xs.length l xs).1 ∧ found ++ (mixed m l1 left).2 = (mixed xs.length l xs).2) xs.length PassesOwn.never ⟨l, xs, [], rfl, rfl, by simp, hD, hp, rfl, rfl⟩ ?_
  rintro F' m gm ⟨l1, left, found, rfl, hl, hfl, hD1, hp1, e1, e2⟩
  refine ⟨_, _, dt_borrow (bor_set 2 1 rfl rfl bor_refl) fun F'' hM => dt_cmp (o_neD hr.units (pl_list (n := 60) hp1).sh rfl) (de_var 2) (de_lst dad_nil), fun h => ?_, fun h => ?_⟩
  · rw [eqv_nil] at h
    have hm : 0 < m := by
      cases left with
      | nil => cases h
      | cons a b => rw [← hl]; exact Nat.succ_pos _
    obtain ⟨i, hi, hil⟩ := off_nat (l := l1) (m := m) hm
    have hii : i < left.length := by omega
    refine ds_expr (de_append (j := 2) (de_varV 3) (de_popAt (j := 1) (n := i) (r := .d left[i]) (de_varV 2) (de_callM C hr (i := 0) (j := 0) (ha := dad_cons (de_borrow (bor_set 2 1 rfl rfl bor_refl) rfl fun F'' hM => de_callB cd_lenL T.len (dad_cons (de_var 2) dad_nil)) dad_nil) (hR := ⟨left.length, rfl, hD1, by omega, by omega, rfl, rfl⟩)) rfl rfl ?_ ?_ ?_) rfl rfl (by rw [List.length_map]; omega)) ?_
    · rw [hl, hi, List.length_map]; exact seqIx_nat hii
    · rw [List.getElem?_map, List.getElem?_eq_getElem hii]; rfl
    · rw [hl, hi]; omega
    · refine ds_nil ?_
      cases m with
      | zero => cases hm
      | succ m =>
        have hg : left[(off l1 (left.length : Int)).1.toNat]? = some left[i] := by
          rw [hl, hi, Int.toNat_natCast, List.getElem?_eq_getElem hii]
        have hn : (off l1 (left.length : Int)).1.toNat = i := by rw [hl, hi, Int.toNat_natCast]
        rw [mixed_succ hg, hn] at e1 e2
        refine ⟨m, Nat.lt_succ_self m, (off l1 left.length).2, left.eraseIdx i, found ++ [left[i]], ?_, ?_, ?_, off_dc hD1 _, fun x hx => hp1 x (List.mem_of_mem_eraseIdx hx), e1, ?_⟩
        · show (⟨_, [_, _, _]⟩ : G) = _
          rw [map_erase, List.map_append]
          rfl
        · rw [List.length_eraseIdx, if_pos hii]; omega
        · rw [List.length_append]; simp; omega
        · rw [List.append_assoc]; exact e2
  · rw [eqv_nil] at h
    have hm : left = [] := by
      cases left with
      | nil => rfl
      | cons a b => cases h
    subst hm
    cases m with
    | succ m => cases hl
    | zero =>
      refine ds_share 3 2 rfl rfl hrM ?_
      refine ds_ret (de_var 3) ⟨?_, ?_⟩
      · rw [← e2]; unfold mixed; simp
      · rw [← e1]; exact List.mem_cons_self ..
/-! names -/
def namesF (l : List Int) : List Int × List Str := mixed 7 (off l 26).2 (namesL (off l 26).1.toNat)
def R_names (l : List Int) (ds : List PyData) (l' : List Int) (d : PyData) : Prop := ds = [] ∧ Dc l ∧ l' = (namesF l).1 ∧ d = .list ((namesF l).2.map .str)
theorem cps_of {s : Str} {i : Nat} (h : i < s.cps.toList.length) : atI s.cps.toList (i : Int) = some (s.cps.toList.getD i 0) := atI_nat (by rw [List.getD_eq_getElem?_getD, List.getElem?_eq_getElem h]; rfl)
theorem ok_names {f : Addr} {fd : FuncData} (Fn : Fun K "_law_names" "_law_names" s_law_names f fd) (T : Ty K mg) (C : Cal P w K mg base 1 "_law_off" (spM K R_off)) (C2 : Cal P w K mg base 2 "_law_mixed" (spM K R_mixed)) : FnOk P w K mg base CX0 3 f fd P_law_names (spM K R_names) := by
  have nd := sc_law_names.nd
  refine okM Fn sc_law_names (by rintro _ _ _ _ ⟨rfl, _⟩; rfl) fun f cdv A outer s H E hr F p l ds l' d hR => ?_
  obtain ⟨rfl, hD, rfl, rfl⟩ := hR
  obtain ⟨t, ht, ht2⟩ := off_nat (l := l) (m := 26) (by decide)
  have ht : (off l 26).1 = (t : Int) := ht
  have hN : ((namesL t).all fun s => isName s) = true ∧ (namesL t).Nodup ∧ (turnS t).cps.toList.length = 26 := names_ok t ht2
  have hS : (turnS t).length ≤ sizeLine := Nat.le_trans (Nat.le_of_eq (show (turnS t).length = 26 from hN.2.2)) (by decide)
  have hl : ∀ i : Nat, i < 26 → atI (turnS t).cps.toList (i : Int) = some ((turnS t).cps.toList.getD i 0) := fun i hi => cps_of (by rw [hN.2.2]; exact hi)
  refine ds_set 1 nd (de_callM C hr (i := 0) (j := 0) (ha := dad_cons de_int dad_nil) (hR := ⟨26, rfl, hD, by decide, by decide, rfl, rfl⟩)) ?_
  rw [ht]
  refine ds_set 2 nd de_str ?_
  refine ds_set 2 nd (de_is (de_bin (o_catS ?_) (de_slS (de_var 2) (dp_some (de_var 1)) dp_none (by decide +kernel)) (de_slS (de_var 2) dp_none (dp_some (de_var 1)) (by decide +kernel))) (show PyData.str (_ ++ _) = .str (turnS t) from rfl)) ?_
  · have : (turnS t).length = (cutS abc (some (t : Int)) none).length + (cutS abc none (some (t : Int))).length := by
      unfold turnS
      show (_ ++ _ : Array _).size = _
      rw [Array.size_append]
      rfl
    show (cutS abc (some (t : Int)) none).length + (cutS abc none (some (t : Int))).length ≤ sizeLine
    omega
  have x : ∀ i : Nat, i < 26 → ∀ {F : Fm} {g : G} {pos p2 p3 : Pos} {j : _}, g.sl[2]? = some (.d (.str (turnS t))) → DE (Xc P w K mg base N_law_names "_law_names" (defScope s_law_names) f cdv A outer s H E) F g (.Subscript (.Name "_law_signs" p2) (.Constant (.int ((i : Nat) : Int)) j p3) pos) g (.d (.str (sgn (turnS t) i))) := fun i hi F g pos p2 p3 j h => de_ixS (i := (i : Int)) (de_var 2 h) de_int hS (hl i hi)
  refine ds_set 3 nd (de_is (de_lst (ds := (namesL t).map .str) (dad_cons (x 0 (by decide) rfl) (dad_cons (de_bin (o_catS (show 1 + 1 ≤ sizeLine by decide)) (x 0 (by decide) rfl) (x 1 (by decide) rfl)) (dad_cons (x 1 (by decide) rfl) (dad_cons (de_bin (o_catS (show 1 + 1 ≤ sizeLine by decide)) (x 1 (by decide) rfl) (x 0 (by decide) rfl)) (dad_cons (de_bin (o_mulS (x := sgn (turnS t) 2) (by decide) (show 1 ≤ 1000 by decide)) (x 2 (by decide) rfl) de_int) (dad_cons (de_bin (o_mulS (x := sgn (turnS t) 2) (by decide) (show 1 ≤ 1000 by decide)) (x 2 (by decide) rfl) de_int) (dad_cons (de_slS (de_var 2) (dp_some de_int) (dp_some de_int) hS) dad_nil))))))) ) rfl) ?_
  · 
    refine ds_ret (de_callM C2 hr (i := 0) (j := 0) (ha := dad_cons (de_var 3) dad_nil) (hR := ⟨(namesL t).map .str, rfl, off_dc hD _, by simp [namesL], ?_, rfl, rfl⟩)) ⟨?_, ?_⟩
    · refine pl_map fun x hx => pl_str (isName_strOk ?_)
      exact List.all_eq_true.mp hN.1 x hx
    · rw [mixed_map, List.length_map]
      unfold namesF
      rw [ht]
      rfl
    · rw [mixed_map, List.length_map]
      unfold namesF
      rw [ht]
      exact List.mem_cons_self ..
end
end Pr
end DL
end L2
namespace L2
namespace DL
namespace Pr
open PySem PySem.Spec PyProof.Rows
/-! fields -/
def pick3 (i : Int) : Int := if i = 0 then 1 else if i = 1 then 2 else 4
theorem pick3_size (i : Int) : isSize (pick3 i) := by
  unfold pick3 isSize
  split
  · exact .inl rfl
  · split
    · exact .inr (.inl rfl)
    · exact .inr (.inr rfl)
theorem pick3_at {l : List Int} : atI ([.int 1, .int 2, .int 4] : List PyData) (off l 3).1 = some (.int (pick3 (off l 3).1)) := by
  obtain ⟨k, h1, h2⟩ := off_nat (l := l) (m := 3) (by decide)
  have h1 : (off l 3).1 = (k : Int) := h1
  rw [h1]
  match k, h2 with
  | 0, _ => rfl
  | 1, _ => rfl
  | 2, _ => rfl
theorem pick2_at {l : List Int} {a b : PyData} : atI [a, b] (off l 2).1 = some (if (off l 2).1 = 0 then a else b) := by
  obtain ⟨k, h1, h2⟩ := off_nat (l := l) (m := 2) (by decide)
  have h1 : (off l 2).1 = (k : Int) := h1
  rw [h1]
  match k, h2 with
  | 0, _ => rfl
  | 1, _ => rfl
def fsF (names : List Str) : Nat → List Int → List Int × List Field
  | 0, l => (l, [])
  | n + 1, l => ((off (fsF names n l).1 3).2, (fsF names n l).2 ++ [(names.getD n "", pick3 (off (fsF names n l).1 3).1)])
theorem fsF_dc {names : List Str} {l : List Int} (h : Dc l) : ∀ n, Dc (fsF names n l).1
  | 0 => h
  | n + 1 => off_dc (fsF_dc h n) _
theorem fsF_len {names : List Str} {l : List Int} : ∀ n, (fsF names n l).2.length = n
  | 0 => rfl
  | n + 1 => by show ((fsF names n l).2 ++ [_]).length = _; rw [List.length_append, fsF_len n]; rfl
theorem fsF_names {names : List Str} {l : List Int} : ∀ n, n ≤ names.length → (fsF names n l).2.map (·.1) = names.take n
  | 0, _ => rfl
  | n + 1, h => by
    show ((fsF names n l).2 ++ [_]).map _ = _
    rw [List.map_append, fsF_names n (by omega), List.take_add_one, List.getElem?_eq_getElem (by omega)]
    simp [List.getD_eq_getElem?_getD, List.getElem?_eq_getElem (show n < names.length by omega)]
theorem fsF_size {names : List Str} {l : List Int} : ∀ n, ∀ f ∈ (fsF names n l).2, isSize f.2
  | 0, f, h => absurd h (by simp [fsF])
  | n + 1, f, h => by
    rcases List.mem_append.mp (show f ∈ (fsF names n l).2 ++ [_] from h) with h | h
    · exact fsF_size n f h
    · have := List.mem_singleton.mp h
      subst this
      exact pick3_size _
theorem namesF_perm (l : List Int) : ∃ t < 26, List.Perm (namesL t) (namesF l).2 := by
  obtain ⟨t, ht, ht2⟩ := off_nat (l := l) (m := 26) (by decide)
  have ht : (off l 26).1 = (t : Int) := ht
  refine ⟨t, ht2, ?_⟩
  unfold namesF
  rw [ht]
  exact mixed_perm 7 _ _ rfl
theorem namesF_len (l : List Int) : (namesF l).2.length = 7 := by
  obtain ⟨t, _, h⟩ := namesF_perm l
  rw [← h.length_eq]
  rfl
theorem namesF_dc {l : List Int} (h : Dc l) : Dc (namesF l).1 := mixed_dc _ _ _ (off_dc h _)
def fieldsF (l : List Int) (m : Int) : List Int × List Field := fsF (namesF l).2 (1 + (off (namesF l).1 m).1.toNat) (off (namesF l).1 m).2
theorem fieldsF_dc {l : List Int} {m : Int} (h : Dc l) : Dc (fieldsF l m).1 := fsF_dc (off_dc (namesF_dc h) _) _
theorem fieldsF_ok {l : List Int} {m : Int} (hm : 0 < m) (h6 : m ≤ 6) : ValidFs (fieldsF l m).2 := by
  have hi := off_hi (l := (namesF l).1) hm
  have lo := off_lo (l := (namesF l).1) hm
  obtain ⟨t, ht, hp⟩ := namesF_perm l
  obtain ⟨n1, n2, _⟩ := names_ok t ht
  have e := fsF_names (names := (namesF l).2) (l := (off (namesF l).1 m).2) (1 + (off (namesF l).1 m).1.toNat) (by rw [namesF_len]; omega)
  refine ⟨?_, ?_, ?_, ?_⟩
  · show 0 < (fsF _ _ _).2.length
    rw [fsF_len]
    omega
  · show (fsF _ _ _).2.length ≤ 6
    rw [fsF_len]
    omega
  · show ((fsF _ _ _).2.map _).Nodup
    rw [e]
    exact (List.take_sublist _ _).nodup (hp.nodup_iff.mp n2)
  · show ∀ f ∈ (fsF _ _ _).2, _
    intro f hf
    refine ⟨?_, fsF_size _ f hf⟩
    have m1 : f.1 ∈ (fsF (namesF l).2 (1 + (off (namesF l).1 m).1.toNat) (off (namesF l).1 m).2).2.map (·.1) := List.mem_map.mpr ⟨f, hf, rfl⟩
    rw [e] at m1
    exact List.all_eq_true.mp n1 _ (hp.mem_iff.mpr (List.mem_of_mem_take m1))
section
variable {P : Program} {w : World} {K : PySem.W.Frag} {mg : Str → Option Value} {base : Heap}
def R_fields (l : List Int) (ds : List PyData) (l' : List Int) (d : PyData) : Prop := ∃ m : Int, ds = [.int m] ∧ Dc l ∧ 0 < m ∧ m ≤ 6 ∧ l' = (fieldsF l m).1 ∧ d = encFs (fieldsF l m).2
theorem ok_fields {f : Addr} {fd : FuncData} (Fn : Fun K "_law_fields" "_law_fields" s_law_fields f fd) (T : Ty K mg) (C : Cal P w K mg base 1 "_law_off" (spM K R_off)) (C2 : Cal P w K mg base 3 "_law_names" (spM K R_names)) : FnOk P w K mg base CX0 4 f fd P_law_fields (spM K R_fields) := by
  have nd := sc_law_fields.nd
  refine okM Fn sc_law_fields (by rintro _ _ _ _ ⟨m, rfl, _⟩; rfl) fun f cdv A outer s H E hr F p l ds l' d hR => ?_
  obtain ⟨m, rfl, hD, h0, h6, rfl, rfl⟩ := hR
  refine ds_set 2 nd (de_callM C2 hr (i := 0) (j := 0) (ha := dad_nil) (hR := ⟨rfl, hD, rfl, rfl⟩)) ?_
  have hi := off_hi (l := (namesF l).1) h0
  have lo := off_lo (l := (namesF l).1) h0
  have hn : (1 + (off (namesF l).1 m).1).toNat = 1 + (off (namesF l).1 m).1.toNat := by omega
  refine ds_ret (de_share (dn_lc (own := [("_law_k", 3)]) (fun i => (fsF (namesF l).2 i (off (namesF l).1 m).2).2.map encF) (fun i => [(p, intsO (fsF (namesF l).2 i (off (namesF l).1 m).2).1)]) nd
    (di_range1 T.range (de_bin o_add de_int (de_callM C hr (i := 0) (j := 0) (ha := dad_cons (de_var 1) dad_nil) (hR := ⟨m, rfl, namesF_dc hD, h0, by omega, rfl, rfl⟩))) (by omega)) rfl rfl (fun _ _ => rfl) (by rw [upTo_length]; omega) (fun i d hd => ?_) (blkOk_by (N := N_law_fields) (sc := defScope s_law_fields) (by decide +kernel)))) ?_
  · obtain ⟨hi2, rfl⟩ := upTo_get hd
    rw [Int.zero_add]
    have hi7 : i < (namesF l).2.length := by rw [namesF_len]; omega
    refine ⟨_, _, _, true, fun _ _ _ _ _ _ => dg_name 3 nd, by simp, fun _ _ _ _ _ _ => dts_nil, fun _ => ⟨_, _, fun _ _ _ _ _ _ => de_tup (dad_cons (de_ixL (de_var 2) (de_var 3) (atI_nat (by rw [List.getElem?_map, List.getElem?_eq_getElem hi7]; rfl))) (dad_cons (de_ixL (de_lst (dad_cons de_int (dad_cons de_int (dad_cons de_int dad_nil)))) (de_callM C hr (i := 0) (j := 0) (ha := dad_cons de_int dad_nil) (hR := ⟨3, rfl, fsF_dc (off_dc (namesF_dc hD) _) _, by decide, by decide, rfl, rfl⟩)) pick3_at) dad_nil)), rfl, ?_⟩, fun h => nomatch h⟩
    show List.map encF (_ ++ [_]) = _
    rw [List.map_append]
    simp [encF, List.getD_eq_getElem?_getD, List.getElem?_eq_getElem hi7]
  · rw [upTo_length, hn]
    exact ⟨rfl, List.mem_cons_self ..⟩
/-! hand -/
def handF (l : List Int) : List Int × Hand :=
  ((off (off (off (off l 2).2 3).2 3).2 2).2, ⟨decide ((off l 2).1 = 0), pick3 (off (off l 2).2 3).1, pick3 (off (off (off l 2).2 3).2 3).1, decide ((off (off (off (off l 2).2 3).2 3).2 2).1 = 0)⟩)
theorem handF_dc {l : List Int} (h : Dc l) : Dc (handF l).1 := off_dc (off_dc (off_dc (off_dc h _) _) _) _
theorem handF_ok (l : List Int) : ValidH (handF l).2 := ⟨pick3_size _, pick3_size _⟩
def R_hand (l : List Int) (ds : List PyData) (l' : List Int) (d : PyData) : Prop := ds = [] ∧ Dc l ∧ l' = (handF l).1 ∧ d = encH (handF l).2
theorem ok_hand {f : Addr} {fd : FuncData} (Fn : Fun K "_law_hand" "_law_hand" s_law_hand f fd) (T : Ty K mg) (C : Cal P w K mg base 1 "_law_off" (spM K R_off)) : FnOk P w K mg base CX0 2 f fd P_law_hand (spM K R_hand) := by
  have nd := sc_law_hand.nd
  refine okM Fn sc_law_hand (by rintro _ _ _ _ ⟨rfl, _⟩; rfl) fun f cdv A outer s H E hr F p l ds l' d hR => ?_
  obtain ⟨rfl, hD, rfl, rfl⟩ := hR
  refine ds_set 1 nd (de_ixL (de_lst (dad_cons de_str (dad_cons de_str dad_nil))) (de_callM C hr (i := 0) (j := 0) (ha := dad_cons de_int dad_nil) (hR := ⟨2, rfl, hD, by decide, by decide, rfl, rfl⟩)) pick2_at) ?_
  refine ds_eqG (g' := ⟨[.v (.ref p), .d (.str (sOrd (handF l).2.great))], [(p, intsO (off l 2).2)]⟩) ?_ ?_
  · show (⟨[_, .d (if _ then _ else _)], _⟩ : G) = _
    unfold handF sOrd
    by_cases h : (off l 2).1 = 0 <;> simp [h]
  · refine ds_ret (de_tup (dad_cons (de_var 1) (dad_cons (de_ixL (de_lst (dad_cons de_int (dad_cons de_int (dad_cons de_int dad_nil)))) (de_callM C hr (i := 0) (j := 0) (ha := dad_cons de_int dad_nil) (hR := ⟨3, rfl, off_dc hD _, by decide, by decide, rfl, rfl⟩)) pick3_at)
      (dad_cons (de_ixL (de_lst (dad_cons de_int (dad_cons de_int (dad_cons de_int dad_nil)))) (de_callM C hr (i := 0) (j := 0) (ha := dad_cons de_int dad_nil) (hR := ⟨3, rfl, off_dc (off_dc hD _) _, by decide, by decide, rfl, rfl⟩)) pick3_at)
      (dad_cons (de_ixL (de_lst (dad_cons de_str (dad_cons de_str dad_nil))) (de_callM C hr (i := 0) (j := 0) (ha := dad_cons de_int dad_nil) (hR := ⟨2, rfl, off_dc (off_dc (off_dc hD _) _) _, by decide, by decide, rfl, rfl⟩)) pick2_at) dad_nil))))) ⟨?_, List.mem_cons_self ..⟩
    unfold encH sWay
    congr 5
    show [if _ then _ else _] = [_]
    unfold handF
    by_cases h : (off (off (off (off l 2).2 3).2 3).2 2).1 = 0 <;> simp [h]
end
end Pr
end DL
end L2
namespace L2
namespace DL
open PySem PySem.Spec PyProof.Rows
section
variable {X : Cx} {F : Fm} {g g1 g2 : G}
theorem o_eqB {K : PySem.W.Frag} {i j : Bool} : OpD X K (compareOp .Eq) (.bool i) (.bool j) (.bool (decide (i = j))) := opD_flat op_eq (.bl (decide (V.bl i = V.bl j))) (fun H => by
    have e : decide (V.bl i = V.bl j) = decide (i = j) := by simp
    rw [e]; exact .bl _) fun S H x y Q hx hy k => by cases hx; cases hy; exact ⟨rfl, k⟩
theorem o_neB {K : PySem.W.Frag} {i j : Bool} : OpD X K (compareOp .NotEq) (.bool i) (.bool j) (.bool (!decide (i = j))) := opD_flat op_ne (.bl (!decide (V.bl i = V.bl j))) (fun H => by
    have e : decide (V.bl i = V.bl j) = decide (i = j) := by simp
    rw [e]; exact .bl _) fun S H x y Q hx hy k => by cases hx; cases hy; exact ⟨rfl, k⟩
end
/-- data that is like itself by the laws' own test -/
def Alk : Nat → PyData → Prop
  | _, .none => True
  | _, .bool _ => True
  | _, .int _ => True
  | _, .str _ => True
  | 0, .list _ => False
  | 0, .tuple _ => False
  | n + 1, .list ds => ds.length ≤ 1000 ∧ ∀ d ∈ ds, Alk n d
  | n + 1, .tuple ds => ds.length ≤ 1000 ∧ ∀ d ∈ ds, Alk n d
  | _, .dict _ => False
theorem alk_ints {n : Nat} {l : List Int} (h : l.length ≤ 1000) : Alk (n + 1) (.list (l.map .int)) := ⟨by rw [List.length_map]; exact h, fun d hd => by
  obtain ⟨x, _, rfl⟩ := List.mem_map.mp hd
  cases n <;> trivial⟩
theorem alk_int {n : Nat} {i : Int} : Alk n (.int i) := by cases n <;> trivial
theorem alk_str {n : Nat} {i : Str} : Alk n (.str i) := by cases n <;> trivial
theorem alk_none {n : Nat} : Alk n .none := by cases n <;> trivial
theorem alk_bool {n : Nat} {b : Bool} : Alk n (.bool b) := by cases n <;> trivial
namespace Pr
theorem kb_l : ∀ T ∈ ["bool", "int", "str"], kitB "list" T = some false := by decide +kernel
theorem kb_t : ∀ T ∈ ["bool", "int", "str"], kitB "tuple" T = some false := by decide +kernel
def R_alike (n : Nat) (ds : List PyData) (d : PyData) : Prop := ∃ x, ds = [x, x] ∧ Alk n x ∧ d = .bool true
section
variable {P : Program} {w : World} {K : PySem.W.Frag} {mg : Str → Option Value} {base : Heap}
theorem ok_alike {f : Addr} {fd : FuncData} (n : Nat) (Fn : Fun K "_law_alike" "_law_alike" s_law_alike f fd) (T : Ty K mg) (C : ∀ m, n = m + 1 → Cal P w K mg base (m + 1) "_law_alike" (spP K (R_alike m))) : FnOk P w K mg base CX0 (n + 1) f fd P_law_alike (spP K (R_alike n)) := by
  have nd := sc_law_alike.nd
  refine okP Fn sc_law_alike (by rintro _ _ ⟨x, rfl, _⟩; rfl) fun f cdv A outer s H E hr F ds d hM hR => ?_
  obtain ⟨x, rfl, hx, rfl⟩ := hR
  have seq : ∀ (xs : List PyData), x = .list xs ∨ x = .tuple xs → DS (Xc P w K mg base N_law_alike "_law_alike" (defScope s_law_alike) f cdv A outer s H E) F ⟨[.d x, .d x, .u], []⟩ (defBody s_law_alike) ⟨fun _ => PyData.bool true = .none, fun _ r => r = .d (.bool true), fun _ => False, fun _ => False, fun _ _ _ => False⟩ := fun xs hxs => by
    obtain ⟨m, hn, hz, hk⟩ : ∃ m, n = m + 1 ∧ xs.length ≤ 1000 ∧ ∀ d ∈ xs, Alk m d := by
      rcases hxs with rfl | rfl <;> cases n <;> first | exact hx.elim | exact ⟨_, rfl, hx⟩
    have hCm := C m hn
    have a1 : ∀ T' : String, T' = "bool" ∨ T' = "int" ∨ T' = "str" → kitB (tyD x) T' = some false := by
      rintro _ (rfl | rfl | rfl) <;> rcases hxs with rfl | rfl <;> first | exact kb_l _ (by simp) | exact kb_t _ (by simp)
    obtain ⟨bt, ht⟩ : ∃ bt, kitB (tyD x) "tuple" = some bt := by
      rcases hxs with rfl | rfl
      · exact ⟨false, show kitB "list" "tuple" = some false by decide +kernel⟩
      · exact ⟨true, show kitB "tuple" "tuple" = some true by decide +kernel⟩
    obtain ⟨bl, hl⟩ : ∃ bl, kitB (tyD x) "list" = some bl := by
      rcases hxs with rfl | rfl
      · exact ⟨true, show kitB "list" "list" = some true by decide +kernel⟩
      · exact ⟨false, show kitB "tuple" "list" = some false by decide +kernel⟩
    have cl : CallD (Xc P w K mg base N_law_alike "_law_alike" (defScope s_law_alike) f cdv A outer s H E) (.builtin "len") [x] (.int xs.length) := by
      rcases hxs with rfl | rfl
      · exact cd_lenL
      · exact cd_lenT
    refine ds_ifx (k := false) (dt_is (dt_cmp o_isN (de_var 1) de_non) (by rcases hxs with rfl | rfl <;> rfl)) (fun h => nomatch h) fun _ => ?_
    refine ds_ifx (k := false) (dt_val (de_isi (T := "bool") T.isinstance T.boolT (de_var 1) (a1 _ (.inl rfl)))) (fun h => nomatch h) fun _ => ?_
    refine ds_ifx (k := false) (dt_val (de_isi (T := "int") T.isinstance T.intT (de_var 1) (a1 _ (.inr (.inl rfl))))) (fun h => nomatch h) fun _ => ?_
    refine ds_ifx (k := false) (dt_val (de_isi (T := "str") T.isinstance T.strT (de_var 1) (a1 _ (.inr (.inr rfl))))) (fun h => nomatch h) fun _ => ?_
    refine ds_ifx (k := false) (dt_is (dt_w (dw_or (dt_cmp o_neB (de_isi T.isinstance T.tupleT (de_var 1) ht) (de_isi T.isinstance T.tupleT (de_var 0) ht)) fun _ => dw_or1 (dt_cmp o_neB (de_isi T.isinstance T.list (de_var 1) hl) (de_isi T.isinstance T.list (de_var 0) hl)))) (by simp)) (fun h => nomatch h) fun _ => ?_
    refine ds_ifx (k := false) (dt_is (dt_cmp o_ne (de_callB cl T.len (dad_cons (de_var 0) dad_nil)) (de_callB cl T.len (dad_cons (de_var 1) dad_nil))) (by simp)) (fun h => nomatch h) fun _ => ?_
    refine ds_ret (de_is (de_callB (cd_all (bs := (List.range xs.length).map fun _ => true)) T.all (dad_cons (de_is (de_share (dn_lcM (own := [("_law_k", 2)]) (enc := fun i : Nat => .int (0 + (i : Int))) (xs := List.range xs.length) (f := fun _ => .bool true) nd (di_range1 (j := (xs.length : Int)) T.range (de_callB cl T.len (dad_cons (de_var 1) dad_nil)) (by omega)) (fun i hi => ?_) ?_ (blkOk_by (N := N_law_alike) (sc := defScope s_law_alike) (by decide +kernel)))) ?_) dad_nil)) ?_) rfl
    · have hi : i < xs.length := List.mem_range.mp hi
      refine ⟨_, _, fun _ _ _ _ _ _ => dg_name 2 nd, by simp, fun _ _ _ _ _ _ => ?_⟩
      have at_ : atI xs (0 + (i : Int)) = some xs[i] := by rw [Int.zero_add]; exact atI_nat (List.getElem?_eq_getElem hi)
      rcases hxs with rfl | rfl
      · exact de_call hCm hr (dad_cons (de_ixL (de_var 0) (de_var 2) at_) (dad_cons (de_ixL (de_var 1) (de_var 2) at_) dad_nil)) ⟨_, rfl, hk _ (List.getElem_mem hi), rfl⟩ (by omega)
      · exact de_call hCm hr (dad_cons (de_ixT (de_var 0) (de_var 2) at_) (dad_cons (de_ixT (de_var 1) (de_var 2) at_) dad_nil)) ⟨_, rfl, hk _ (List.getElem_mem hi), rfl⟩ (by omega)
    · rw [List.length_range]; omega
    · rw [List.map_map]; rfl
    · have : ((List.range xs.length).map fun _ => true).all id = true := by rw [List.all_map, List.all_eq_true]; intro _ _; rfl
      rw [this]
  cases x with
  | none => exact ds_ifx (k := true) (dt_cmp o_isN (de_var 1) de_non) (fun _ => ds_ret (de_cmp o_isN (de_var 0) de_non) rfl) fun h => nomatch h
  | bool b =>
    refine ds_ifx (k := false) (dt_cmp o_isN (de_var 1) de_non) (fun h => nomatch h) fun _ => ?_
    exact ds_ifx (k := true) (dt_val (de_isi (T := "bool") T.isinstance T.boolT (de_var 1) (by exact (show kitB "bool" "bool" = some true by decide +kernel)))) (fun _ => ds_ret (de_is (de_and (de_isi (T := "bool") (k := true) T.isinstance T.boolT (de_var 0) (by exact (show kitB "bool" "bool" = some true by decide +kernel))) fun _ => de_one (de_cmp o_eqB (de_var 0) (de_var 1))) (by simp)) rfl) fun h => nomatch h
  | int i =>
    refine ds_ifx (k := false) (dt_cmp o_isN (de_var 1) de_non) (fun h => nomatch h) fun _ => ?_
    refine ds_ifx (k := false) (dt_val (de_isi (T := "bool") T.isinstance T.boolT (de_var 1) (by exact (show kitB "int" "bool" = some false by decide +kernel)))) (fun h => nomatch h) fun _ => ?_
    exact ds_ifx (k := true) (dt_val (de_isi (T := "int") T.isinstance T.intT (de_var 1) (by exact (show kitB "int" "int" = some true by decide +kernel)))) (fun _ => ds_ret (de_is (de_and (de_isi (T := "int") (k := true) T.isinstance T.intT (de_var 0) (by exact (show kitB "int" "int" = some true by decide +kernel))) fun _ => de_and (de_not (de_isi (T := "bool") (k := false) T.isinstance T.boolT (de_var 0) (by exact (show kitB "int" "bool" = some false by decide +kernel))) (dt_val (de_isi (T := "bool") (k := false) T.isinstance T.boolT (de_var 0) (by exact (show kitB "int" "bool" = some false by decide +kernel))))) fun _ => de_one (de_cmp o_eq (de_var 0) (de_var 1))) (by simp)) rfl) fun h => nomatch h
  | str z =>
    refine ds_ifx (k := false) (dt_cmp o_isN (de_var 1) de_non) (fun h => nomatch h) fun _ => ?_
    refine ds_ifx (k := false) (dt_val (de_isi (T := "bool") T.isinstance T.boolT (de_var 1) (by exact (show kitB "str" "bool" = some false by decide +kernel)))) (fun h => nomatch h) fun _ => ?_
    refine ds_ifx (k := false) (dt_val (de_isi (T := "int") T.isinstance T.intT (de_var 1) (by exact (show kitB "str" "int" = some false by decide +kernel)))) (fun h => nomatch h) fun _ => ?_
    exact ds_ifx (k := true) (dt_val (de_isi (T := "str") T.isinstance T.strT (de_var 1) (by exact (show kitB "str" "str" = some true by decide +kernel)))) (fun _ => ds_ret (de_is (de_and (de_isi (T := "str") (k := true) T.isinstance T.strT (de_var 0) (by exact (show kitB "str" "str" = some true by decide +kernel))) fun _ => de_one (de_cmp o_eqS (de_var 0) (de_var 1))) (by simp)) rfl) fun h => nomatch h
  | list xs => exact seq xs (.inl rfl)
  | tuple xs => exact seq xs (.inr rfl)
  | dict _ => cases n <;> exact hx.elim
end
end Pr
end DL
end L2
namespace L2
namespace DL
open PySem PySem.Spec PyProof.Rows
theorem di_is {X : Cx} {F : Fm} {g g' : G} {tg iter : Expr} {ds ds' : List PyData} (h : DI X F g tg iter g' ds) (q : ds = ds') : DI X F g tg iter g' ds' := q ▸ h
namespace Pr
section
variable {P : Program} {w : World} {K : PySem.W.Frag} {mg : Str → Option Value} {base : Heap}
theorem atI_map {α β : Type} (f : α → β) {xs : List α} {i : Int} {x : α} (h : atI xs i = some x) : atI (xs.map f) i = some (f x) := by
  unfold atI at *
  rw [List.length_map]
  cases e : ixN xs.length i with
  | none => rw [e] at h; cases h
  | some j =>
    rw [e] at h
    show (xs.map f)[j]? = _
    rw [List.getElem?_map, show xs[j]? = some x from h]
    rfl
theorem isSize_min {a b : Int} (h : isSize a) (h' : isSize b) : isSize (min a b) := by rcases h with h | h | h <;> rcases h' with h' | h' | h' <;> rw [h, h'] <;> decide
theorem ok_lplaces {f : Addr} {fd : FuncData} (Fn : Fun K "_law_places" "_law_places" s_law_places f fd) (T : Ty K mg) : FnOk P w K mg base CX0 1 f fd P_law_places (spP K R_places_of) := by
  have nd := sc_law_places.nd
  refine okP Fn sc_law_places (by rintro _ _ ⟨fs, h, gs, rfl, _⟩; rfl) fun f cdv A outer s H E hr F ds d hM hR => ?_
  obtain ⟨fs, h, gs, rfl, hfs, hz, hal, hl, rfl⟩ := hR
  refine ds_set 3 nd de_int ?_
  refine ds_set 4 nd de_int ?_
  refine ds_new 5 nd (dn_lst da_nil) fun p hpM _ => ?_
  have hzl : (fs.zip gs).length = fs.length := by rw [List.length_zip]; omega
  refine ds_for (fun i g => ∃ a, g = ⟨[.d (encFs fs), .d (encH h), .d (encI gs), .d (.int (plRun h.align ((fs.zip gs).take i)).1), .d (.int (plRun h.align ((fs.zip gs).take i)).2.1), .v (.ref p), a], [(p, .lst (((plRun h.align ((fs.zip gs).take i)).2.2.map .int).map .d))]⟩)
    PassesOwn.never rfl (di_range1 T.range (de_callB cd_lenL T.len (dad_cons (de_var 0) dad_nil)) (by rw [List.length_map]; omega)) ⟨_, rfl⟩ ?_ ?_
  · rintro F' i d gi hd ⟨a, rfl⟩
    obtain ⟨hi, rfl⟩ := upTo_get hd
    rw [List.length_map, Int.toNat_natCast] at hi
    rw [Int.zero_add]
    have hx : (fs.zip gs)[i]? = some (fs[i], gs[i]) := by rw [List.getElem?_eq_getElem (by omega), List.getElem_zip]
    have hx1 : isSize fs[i].2 := hfs _ (List.getElem_mem hi)
    have hst : isSize (min h.align fs[i].2) := isSize_min hal hx1
    obtain ⟨s1, s2⟩ := hst.pos
    have s0 : 0 < min h.align fs[i].2 := by omega
    have hlen : (plRun h.align ((fs.zip gs).take i)).2.2.length ≤ 1000 := by
      rw [(plRun_size hal _ fun y hy => hfs _ (List.of_mem_zip (List.mem_of_mem_take hy)).1).2, List.length_take, List.length_zip]
      omega
    have fi : atI (fs.map encF) (i : Int) = some (encF fs[i]) := atI_nat (by rw [List.getElem?_map, List.getElem?_eq_getElem hi]; rfl)
    have gi : atI (gs.map PyData.int) (i : Int) = some (.int gs[i]) := atI_nat (by rw [List.getElem?_map, List.getElem?_eq_getElem (by omega)]; rfl)
    refine ⟨_, _, dg_name 6 nd, ?_⟩
    refine ds_set 3 nd (de_bin o_add (de_var 3) (de_ixL (de_var 2) (de_var 6) gi)) ?_
    have lo := upTo'_lo (p := (plRun h.align ((fs.zip gs).take i)).1 + gs[i]) (s := min h.align fs[i].2) s1
    refine ds_while (fun m g => ∃ x : Int, g = ⟨[.d (encFs fs), .d (encH h), .d (encI gs), .d (.int x), .d (.int (plRun h.align ((fs.zip gs).take i)).2.1), .v (.ref p), .d (.int (i : Nat))], [(p, .lst (((plRun h.align ((fs.zip gs).take i)).2.2.map .int).map .d))]⟩ ∧ (plRun h.align ((fs.zip gs).take i)).1 + gs[i] ≤ x ∧ x + m = upTo' ((plRun h.align ((fs.zip gs).take i)).1 + gs[i]) (min h.align fs[i].2)) (upTo' ((plRun h.align ((fs.zip gs).take i)).1 + gs[i]) (min h.align fs[i].2) - ((plRun h.align ((fs.zip gs).take i)).1 + gs[i])).toNat PassesOwn.never ⟨_, rfl, Int.le_refl _, by omega⟩ ?_
    rintro F'' m gm ⟨x, rfl, x1, x2⟩
    obtain ⟨u1, u2⟩ := up_stop hst x1 (by omega)
    refine ⟨_, _, dt_cmp o_ne (de_bin (o_mod s0) (de_var 3) (de_callB cd_min2 T.min (dad_cons (de_ixT (de_var 1) de_int rfl) (dad_cons (de_ixT (de_ixL (de_var 0) (de_var 6) fi) de_int rfl) dad_nil)))) de_int, fun hb => ?_, fun hb => ?_⟩
    · have hb : x % min h.align fs[i].2 ≠ 0 := by simpa using hb
      have := u2 hb
      refine ds_set 3 nd (de_bin o_add (de_var 3) de_int) (ds_nil ⟨m - 1, by omega, x + 1, rfl, by omega, by omega⟩)
    · have hb : x % min h.align fs[i].2 = 0 := by simpa using hb
      have hx' := u1 hb
      subst hx'
      refine ds_expr (de_append (j := 0) (de_varV 5) (de_var 3) rfl rfl (by rw [List.length_map, List.length_map]; omega)) ?_
      refine ds_set 3 nd (de_bin o_add (de_var 3) (de_ixT (de_ixL (de_var 0) (de_var 6) fi) de_int rfl)) ?_
      refine ds_set 4 nd (de_callB cd_max2 T.max (dad_cons (de_var 4) (dad_cons (de_callB cd_min2 T.min (dad_cons (de_ixT (de_var 1) de_int rfl) (dad_cons (de_ixT (de_ixL (de_var 0) (de_var 6) fi) de_int rfl) dad_nil))) dad_nil))) ?_
      refine ds_nil ?_
      show ∃ a, _ = _
      rw [plRun_take hx]
      unfold plStep
      refine ⟨.d (.int (i : Nat)), ?_⟩
      rw [Int.min_comm fs[i].2 h.align, List.map_append, List.map_append]
      rfl
  · rintro gn ⟨a, rfl⟩
    rw [upTo_length, List.length_map, Int.toNat_natCast, ← hzl, List.take_length]
    obtain ⟨hm, hml⟩ := plRun_size hal (fs.zip gs) fun y hy => hfs _ (List.of_mem_zip hy).1
    obtain ⟨s1, s2⟩ := hm.pos
    have s0 : 0 < (plRun h.align (fs.zip gs)).2.1 := by omega
    have lo := upTo'_lo (p := (plRun h.align (fs.zip gs)).1) (s := (plRun h.align (fs.zip gs)).2.1) s1
    refine ds_while (fun m g => ∃ x : Int, g = ⟨[.d (encFs fs), .d (encH h), .d (encI gs), .d (.int x), .d (.int (plRun h.align (fs.zip gs)).2.1), .v (.ref p), a], [(p, .lst (((plRun h.align (fs.zip gs)).2.2.map .int).map .d))]⟩ ∧ (plRun h.align (fs.zip gs)).1 ≤ x ∧ x + m = upTo' (plRun h.align (fs.zip gs)).1 (plRun h.align (fs.zip gs)).2.1) (upTo' (plRun h.align (fs.zip gs)).1 (plRun h.align (fs.zip gs)).2.1 - (plRun h.align (fs.zip gs)).1).toNat PassesOwn.never ⟨_, rfl, Int.le_refl _, by omega⟩ ?_
    rintro F'' m gm ⟨x, rfl, x1, x2⟩
    obtain ⟨u1, u2⟩ := up_stop hm x1 (by omega)
    refine ⟨_, _, dt_cmp o_ne (de_bin (o_mod s0) (de_var 3) (de_var 4)) de_int, fun hb => ?_, fun hb => ?_⟩
    · have hb : x % (plRun h.align (fs.zip gs)).2.1 ≠ 0 := by simpa using hb
      have := u2 hb
      refine ds_set 3 nd (de_bin o_add (de_var 3) de_int) (ds_nil ⟨m - 1, by omega, x + 1, rfl, by omega, by omega⟩)
    · have hb : x % (plRun h.align (fs.zip gs)).2.1 = 0 := by simpa using hb
      have hx' := u1 hb
      subst hx'
      refine ds_share 5 0 rfl rfl hpM ?_
      exact ds_ret (de_tup (dad_cons (de_var 5) (dad_cons (de_var 3) dad_nil))) rfl
/-! plain -/
def R_plain (ds : List PyData) (d : PyData) : Prop := ∃ n : Nat, ds = [.int n] ∧ n ≤ 1000 ∧ d = encI (List.replicate n 0)
/-! cells -/
def R_lcells (ds : List PyData) (d : PyData) : Prop := ∃ (n size : Int) (g : Bool), ds = [.int n, .int size, .str (sOrd g)] ∧ isSize size ∧ 0 ≤ n ∧ n < 10 ^ size.toNat ∧ d = encI (cellsF n size g)
/-! number -/
def R_lnumber (ds : List PyData) (d : PyData) : Prop := ∃ (cs : List Int) (g : Bool), ds = [encI cs, .str (sOrd g)] ∧ cs.length ≤ 1000 ∧ d = .int (numF cs g)
/-! most -/
def R_most (ds : List PyData) (d : PyData) : Prop := ∃ s : Int, ds = [.int s] ∧ isSize s ∧ d = .int (10 ^ s.toNat)
/-! memory -/
def R_memory (l : List Int) (ds : List PyData) (l' : List Int) (d : PyData) : Prop := ∃ n : Nat, ds = [.int n] ∧ Dc l ∧ n ≤ 1000 ∧ l' = (memoryF l n).1 ∧ d = encI (memoryF l n).2
end
end Pr
end DL
end L2
namespace L2
namespace DL
open PySem PySem.Spec PyProof.Rows
theorem Sat.born {K : PySem.W.Frag} {F : Fm} {g : G} {σ : St} {H H' : Hp} {p : Addr} {o : HO} {od : OD} (s : Sat K F g σ H) (hp : H p = none) (e : Same H H') (h : H' p = some o) (q : ODok K (hid (p :: (F.S ++ g.dom)) H') o od) : Sat K F ⟨g.sl, g.ow ++ [(p, od)]⟩ σ H' := by
  have hn : p ∉ F.S ++ g.dom := s.newOut hp
  have sh : Same (F.hd g H) (hid (p :: (F.S ++ g.dom)) H') := hid_mono e fun a m => by
    rcases List.mem_cons.mp m with m | m
    · exact .inr (m ▸ hp)
    · exact .inl m
  have dm : G.dom ⟨g.sl, g.ow ++ [(p, od)]⟩ = g.dom ++ [p] := by simp [G.dom]
  have e2 : F.hd ⟨g.sl, g.ow ++ [(p, od)]⟩ H' = hid (p :: (F.S ++ g.dom)) H' := by
    funext b
    show hid (F.S ++ G.dom ⟨g.sl, g.ow ++ [(p, od)]⟩) H' b = _
    unfold hid
    rw [dm]
    by_cases hb : b ∈ p :: (F.S ++ g.dom)
    · rw [if_pos hb, if_pos (by simp at hb ⊢; rcases hb with h | h | h <;> simp [h])]
    · rw [if_neg hb, if_neg (by simp at hb ⊢; exact ⟨hb.2.1, hb.2.2, hb.1⟩)]
  refine ⟨?_, fun y hy => ?_, ?_, fun b o q' m => e b o (s.ex b o q' m), fun a m => ?_, s.sH, fun a m => ?_⟩
  · rw [e2]; exact paired_mono (fun _ _ z => slOk_mono sh z) s.sl
  · rw [e2]
    rcases List.mem_append.mp hy with hy | hy
    · obtain ⟨u, a1, a2⟩ := s.ow y hy
      exact ⟨u, e _ _ a1, odOk_mono sh a2⟩
    · rw [List.mem_singleton] at hy
      subst hy
      exact ⟨_, h, q⟩
  · rw [dm]
    exact List.nodup_append.mpr ⟨s.nd, by simp, fun a ha' b hb e => hn (List.mem_append_right _ (by rw [List.mem_singleton] at hb; rw [← hb, ← e]; exact ha'))⟩
  · rw [dm] at m
    rcases List.mem_append.mp m with m | m
    · exact s.fr a m
    · rw [List.mem_singleton] at m; exact .inl (m ▸ s.fresh0 hp)
  · cases z : H a with
    | none => exact absurd z (s.mH a m)
    | some o => rw [e a o z]; simp
namespace Pr
section
variable {X : Cx} {F : Fm} {g : G} {rest : List Stmt} {z : Z}
/-- d = _law_dice(script, k) -/
theorem ds_dice (i j : Nat) {x y : Str} {p0 : Addr} {ns : List Int} {c : Int} {kk jl k : Nat} {p p1 p2 p3 pos pos2 : Pos} (C : CalX X jl "_law_dice" (spDc X.K)) (hr : Room k X.A) (nd : X.N.Nodup)
    (hq : SqL X.K F.H0 p0 (ns.map V.int)) (hz : ns.length ≤ 63) (hM : F.M = []) (hS : F.S = [])
    (kn : ∀ p l, Dc l → DS X F ⟨g.sl.set i (.v (.ref p)), g.ow ++ [(p, intsO l)]⟩ rest z)
    (hs : g.sl[j]? = some (.v (.ref p0)) := by rfl) (hN : X.N[j]? = some y := by rfl) (hv : Vis X.env.scope y := by first | exact Or.inl rfl | exact Or.inr (Or.inl rfl) | exact Or.inr (Or.inr rfl))
    (hd : (y == ("__debug__" : Str)) = false := by decide) (hcd : (y == ("__classdict__" : Str)) = false := by decide)
    (hk : jl ≤ k := by decide) (hg : Gl X "_law_dice" := by rfl) (hdb : ("_law_dice" == ("__debug__" : Str)) = false := by decide)
    (he : starEach (.Name y p1 :: [.Constant (.int c) kk p2]) X.env = (false, eval (.Name y p1) X.env) :: starEach [.Constant (.int c) kk p2] X.env := by rfl) (he2 : starEach [.Constant (.int c) kk p2] X.env = (false, eval (.Constant (.int c) kk p2) X.env) :: starEach [] X.env := by rfl)
    (hpl : (backTo pos2 (starEach [.Constant (.int c) kk p2] X.env)).any (·.1) = false := by rfl)
    (hi : X.N[i]? = some x := by rfl) (hx : Loc X.env.scope x := by first | exact Or.inl rfl | exact Or.inr rfl)
    (hsw : swapsWith (.Call (.Name "_law_dice" p) [.Name y p1, .Constant (.int c) kk p2] [] pos2) (some (.Name x p3)) pos.line X.env = pure false := by rfl) (hf : X.fn x = true ∨ X.env.scope.names.lookup x = some .local := by first | exact .inl rfl | exact .inr rfl) :
    DS X F g (.Assign [.Name x p3] (.Call (.Name "_law_dice" p) [.Name y p1, .Constant (.int c) kk p2] [] pos2) pos :: rest) z := DS.mk fun σ H D s zk => by
  refine uS_of (pss_cons (ps_set nd hi hx pe_s hsw hf) pss_s) (eS_call C hr hk hg hdb he hpl (aS_of (pa_cons (pe_var (i := j) hN hv hd hcd) (pa_cons pe_int pa_nil he2) he) ?_))
  obtain ⟨o, h1, h2⟩ := sat_slot s hs
  have eo : o = some (V.ref p0) := h2
  subst eo
  refine ⟨_, h1, ?_⟩
  refine ⟨p0, ns, c, rfl, same_l unhid (s.script hq hM hS), hz, fun q l H' hq' e hq2 hD => ?_⟩
  exact kn q l hD _ H' D (Sat.setSl (g := ⟨g.sl, g.ow ++ [(q, intsO l)]⟩) (i := i) (r := .v (.ref q)) (s.born hq' e hq2 (ints_of l)) rfl) zk
def spLaw (K : PySem.W.Frag) : Sp := fun vs H Q _ => ∃ (a : Addr) (ns : List Int), vs = [.ref a] ∧ SqL K H a (ns.map V.int) ∧ ns.length ≤ 63 ∧ ∀ H', Q (.bl true) H'
theorem okLaw {P : Program} {w : World} {K : PySem.W.Frag} {mg : Str → Option Value} {base : Heap} {x qual : Str} {st : Stmt} {f : Addr} {fd : FuncData} {N ps : List Str} {k : Nat} (Fn : Fun K x qual st f fd) (S : FnScope N ps (defScope st)) (hl : ps.length = 1)
    (h : ∀ f cdv A outer s H E, Room k (A.deeper (envOfC qual (defScope st) s.heap.objs.size f cdv)) → ∀ F a (ns : List Int), F.M = [] → F.S = [] → SqL K F.H0 a (ns.map V.int) → ns.length ≤ 63 →
      DS (Xc P w K mg base N qual (defScope st) f cdv A outer s H E) F ⟨sl0 N.length [.v (.ref a)], []⟩ (defBody st) ⟨fun _ => False, fun _ r => r = .d (.bool true), fun _ => False, fun _ => False, fun _ _ _ => False⟩) :
    FnOk P w K mg base CX0 (k + 1) f fd ps (spLaw K) := by
  refine Fn.ok S (fun vs H Q E ⟨a, ns, e, _⟩ => by rw [e, hl]; rfl) (fun cdv A outer s H vs Q E hr ⟨a, ns, e, hq, hz, q⟩ => ?_)
  subst e
  refine ⟨_, pss_s, h f cdv A outer s H E hr ⟨[], H, []⟩ a ns rfl rfl hq hz _ H _ ?_ ?_⟩
  · exact ⟨start_ok (.cons rfl .nil), fun p hp => absurd hp (by simp), List.nodup_nil, fun b o e _ => e, fun a m => absurd m (by simp), fun a m => absurd m (by simp), fun a m => absurd m (by simp)⟩
  · refine ⟨fun g σ H' e s' => e.elim, fun g r σ v H' e s' k' => ?_, fun _ _ _ h => h.elim, fun _ _ _ h => h.elim, fun _ _ _ _ _ _ h => h.elim⟩
    subst e
    cases k' with
    | bl => exact q H'
end
end Pr
end DL
end L2
namespace L2
namespace DL
namespace Pr
open PySem PySem.Spec PyProof.Rows
theorem sz_data {K : PySem.W.Frag} {a : Addr} {od : Option Addr} {t1 t2 t4 : Tok} {n : Nat} {sl : Array (Option Value)} (l : K.lookup a = some ⟨.type "tuple", od, .seq #[.int 1 t1, .int 2 t2, .int 4 t4] n, sl⟩) : ∀ H, Dt K H (.ref a) (.tuple [.int 1, .int 2, .int 4]) := fun H =>
  Dt.tup (show SqT K H a [V.int 1, .int 2, .int 4] from .inr ⟨_, _, _, l, rfl, rfl, (show 3 ≤ sizeLine by decide), .cons ⟨_, rfl⟩ (.cons ⟨_, rfl⟩ (.cons ⟨_, rfl⟩ .nil))⟩) (.cons (.int 1) (.cons (.int 2) (.cons (.int 4) .nil)))
end Pr
end DL
end L2
set_option Elab.async false
set_option linter.all false
set_option pp.deepTerms false
set_option pp.maxSteps 3000
set_option maxRecDepth 100000
set_option maxHeartbeats 4000000
namespace L2
namespace DL
namespace Pr
open PySem PySem.Spec PyProof.Rows PySem.SeqAt
open PySem.W (alike alikeAll alike_ints AlikeAll dataLt)
section
variable {P : Program} {w : World} {K : PySem.W.Frag} {mg : Str → Option Value} {base : Heap}
def R_filled (ds : List PyData) (d : PyData) : Prop := ∃ (fs : List Field) (h h' : Hand), ds = [encFs fs, encH h, encH h'] ∧ ValidFs fs ∧ ValidH h ∧ ValidH h' ∧ knownF h.align h'.align fs ≠ [] ∧ ∃ s : Int, filledF h.align h'.align fs = .tuple [.int s, d]
/-- what is kept of a dict of places -/
structure KDok (kd : KD) : Prop where
  nd : (kd.map (·.1)).Nodup
  le : kd.length ≤ 62
theorem keys_enc (kd : KD) : (encKD kd).map (·.1) = (kd.map (·.1)).map Sum.inl := by
  unfold encKD
  rw [List.map_map, List.map_map]
  rfl
theorem alike_more (a b : Mo) : alike (moreD a) (moreD b) = true := by
  unfold moreD
  simp [alike, alikeAll, alike_ints]
theorem sortI_is {l zs : List Int} (h : zs.Perm l) (h2 : zs.Pairwise (· ≤ ·)) : zs = sortI l := by
  have p : zs.Perm (sortI l) := h.trans (List.mergeSort_perm l _).symm
  have s : (sortI l).Pairwise (· ≤ ·) := by
    have := List.pairwise_mergeSort (le := fun a b : Int => decide (a ≤ b)) (fun a b c h1 h2 => by simp at *; omega) (fun a b => by simp; omega) l
    exact List.Pairwise.imp (fun h => by simpa using h) this
  exact p.eq_of_pairwise (fun a b _ _ h1 h2 => Int.le_antisymm h1 h2) h2 s
theorem de_sl {X : Cx} {F : Fm} {g g1 : G} {e : Expr} {r r' : Sl} (h : DE X F g e g1 r) (q : r = r') : DE X F g e g1 r' := q ▸ h
theorem kfnd_has {kd : KD} {k : Int} (h : k ∈ kd.map (·.1)) : ∃ x, kfnd kd k = some x := by
  unfold kfnd
  obtain ⟨e, he, ek⟩ := List.mem_map.mp h
  cases q : kd.find? fun e => decide (e.1 = k) with
  | none =>
    rw [List.find?_eq_none] at q
    exact absurd ek (by simpa using q e he)
  | some y => exact ⟨_, rfl⟩
theorem maxSz : PySem.W.maxD (.int 1) [.int 2, .int 4] = .int 4 := PySem.W.maxD_ints 1 [2, 4]
theorem gapStep_eq {s0 s1 size here gap : Int} {x : Mo} {kd : KD} (h : upTo' (here + gap) s0 = upTo' (here + gap) s1) : gapStep s0 s1 size x here kd gap = kset kd (upTo' (here + gap) s0 + size) (minM ((kfnd kd (upTo' (here + gap) s0 + size)).getD (x.1 + gap, x.2 ++ [gap])) (x.1 + gap, x.2 ++ [gap])) := by
  unfold gapStep
  rw [if_pos h]
  rfl
theorem gapStep_ne {s0 s1 size here gap : Int} {x : Mo} {kd : KD} (h : ¬ upTo' (here + gap) s0 = upTo' (here + gap) s1) : gapStep s0 s1 size x here kd gap = kd := by
  unfold gapStep
  rw [if_neg h]
theorem ok_filled {f : Addr} {fd : FuncData} (Fn : Fun K "filled" "filled" s_filled f fd) (T : Ty K mg) (hsd : mg "sorted" = none) (C1 : Cal P w K mg base 2 "need_fields" (spP K R_need_fields)) (C2 : Cal P w K mg base 1 "need_hand" (spP K R_need_hand)) (C3 : Cal P w K mg base 1 "up_to" (spP K R_up_to))
    (ok1 : ∀ (a1 a2 : Int) (fs : List Field) i, isSize a1 → isSize a2 → ValidFs fs → KDok (knownF a1 a2 (fs.take i))) (ok2 : ∀ (a1 a2 : Int) (fs : List Field) (i : Nat) (f : Field), isSize a1 → isSize a2 → ValidFs fs → fs[i]? = some f → ∀ (j k : Nat) (x : Mo) (here : Int), (sortI ((knownF a1 a2 (fs.take i)).map (·.1)))[j]? = some here → (([0, 1, 2, 3] : List Int).take k |>.foldl (gapStep (min f.2 a1) (min f.2 a2) f.2 x here) (((sortI ((knownF a1 a2 (fs.take i)).map (·.1))).take j).foldl (hereStep (min f.2 a1) (min f.2 a2) f.2 (knownF a1 a2 (fs.take i))) [])).length ≤ 1000)
    (ok3 : ∀ (a1 a2 : Int) (fs : List Field) i, isSize a1 → isSize a2 → ValidFs fs → ∀ e ∈ knownF a1 a2 (fs.take i), e.2.2.length ≤ 60) :
    FnOk P w K mg base CX0 3 f fd P_filled (spP K R_filled) := by
  have nd := sc_filled.nd
  refine okP Fn sc_filled (by rintro _ _ ⟨fs, h, h', rfl, _⟩; rfl) fun f cdv A outer s H E hr F ds d hM hR => ?_
  obtain ⟨fs, h, h', rfl, v, vh, vh', hne, s0, hd⟩ := hR
  refine ds_expr (de_call C1 hr (dad_cons (de_var 0) dad_nil) ⟨fs, rfl, v, rfl⟩) ?_
  refine ds_expr (de_call C2 hr (dad_cons (de_var 1) dad_nil) ⟨h, rfl, vh, rfl⟩) ?_
  refine ds_expr (de_call C2 hr (dad_cons (de_var 2) dad_nil) ⟨h', rfl, vh', rfl⟩) ?_
  refine ds_new 3 nd (dn_disp1 fun p => de_tup (dad_cons de_int (dad_cons (de_lst dad_nil) dad_nil))) fun q0 hqM _ => ?_
  refine ds_for (fun i g => ∃ q b4 b5 b6 b7 b8 b9 b10 b11, g = ⟨[.d (encFs fs), .d (encH h), .d (encH h'), .v (.ref q), b4, b5, b6, b7, b8, b9, b10, b11], [(q, .dk (encKD (knownF h.align h'.align (fs.take i))))]⟩) PassesOwn.never rfl (di_list (de_var 0)) ⟨_, _, _, _, _, _, _, _, _, rfl⟩ ?_ ?_
  · rintro F' i d gi hdi ⟨q, b4, b5, b6, b7, b8, b9, b10, b11, rfl⟩
    rw [List.getElem?_map] at hdi
    cases hf : fs[i]? with
    | none => rw [hf] at hdi; cases hdi
    | some fk =>
    rw [hf] at hdi
    cases hdi
    have hs := v.size _ (List.mem_of_getElem? hf)
    have ko := ok1 h.align h'.align fs i vh.al vh'.al v
    have kst : knownF h.align h'.align (fs.take (i + 1)) = fieldStep h.align h'.align (knownF h.align h'.align (fs.take i)) fk := by
      unfold knownF
      rw [List.take_add_one, hf, List.foldl_append]
      rfl
    have ok2' := ok2 h.align h'.align fs i fk vh.al vh'.al v hf
    have ok3' := ok3 h.align h'.align fs i vh.al vh'.al v
    generalize knownF h.align h'.align (fs.take i) = known at *
    refine ⟨_, _, dg_tup rfl (dgs_cons (dg_name 4 nd) (dgs_cons (dg_name 5 nd) dgs_nil)), ?_⟩
    refine ds_new 6 nd dn_dnew fun b hbM _ => ?_
    refine ds_set 7 nd (de_lst (dad_cons (de_callB cd_min2 T.min (dad_cons (de_var 5) (dad_cons (de_ixT (de_var 1) de_int rfl) dad_nil))) (dad_cons (de_callB cd_min2 T.min (dad_cons (de_var 5) (dad_cons (de_ixT (de_var 2) de_int rfl) dad_nil))) dad_nil))) ?_
    have hz0 : isSize (min fk.2 h.align) := by rcases hs with a | a | a <;> rcases vh.al with b | b | b <;> rw [a, b] <;> decide
    have hz1 : isSize (min fk.2 h'.align) := by rcases hs with a | a | a <;> rcases vh'.al with b | b | b <;> rw [a, b] <;> decide
    generalize e0 : min fk.2 h.align = m0 at *
    generalize e1 : min fk.2 h'.align = m1 at *
    have hu : (A.deeper (envOfC "filled" (defScope s_filled) s.heap.objs.size f cdv)).units + 65 < cLine := by
      have h1 := hr.un
      omega
    have hu1 : (A.deeper (envOfC "filled" (defScope s_filled) s.heap.objs.size f cdv)).units + 1 < cLine := by
      have h1 := hr.un
      omega
    obtain ⟨p0, p1⟩ := hz0.pos
    obtain ⟨r0, r1⟩ := hz1.pos
    refine ds_for (fun j g => ∃ b8 b9 b10 b11, g = ⟨[.d (encFs fs), .d (encH h), .d (encH h'), .v (.ref q), .d (.str fk.1), .d (.int fk.2), .v (.ref b), .d (.list [.int m0, .int m1]), b8, b9, b10, b11], [(q, .dk (encKD known)), (b, .dk (encKD (((sortI (known.map (·.1))).take j).foldl (hereStep m0 m1 fk.2 known) [])))]⟩) PassesOwn.never rfl
      (di_list (ds := (sortI (known.map (·.1))).map .int) (de_share (dn_sortedD (j := 0) hsd (de_varV 3) rfl (keys_enc known) (by rw [List.length_map]; have := ko.le; omega) (fun zs h1 h2 => sortI_is h1 h2)))) ⟨_, _, _, _, rfl⟩ ?_ ?_
    · rintro F'' j d gi hdj ⟨b8, b9, b10, b11, rfl⟩
      rw [List.getElem?_map] at hdj
      cases hj : (sortI (known.map (·.1)))[j]? with
      | none => rw [hj] at hdj; cases hdj
      | some here =>
      rw [hj] at hdj
      cases hdj
      have hmem : here ∈ known.map (·.1) := (List.mergeSort_perm _ _).mem_iff.mp (List.mem_of_getElem? hj)
      obtain ⟨x, hx⟩ := kfnd_has hmem
      have hxl : x.2.length ≤ 60 := by
        unfold kfnd at hx
        cases hq : known.find? fun e => decide (e.1 = here) with
        | none => rw [hq] at hx; cases hx
        | some e =>
          rw [hq] at hx
          cases hx
          exact ok3' e (List.mem_of_find?_eq_some hq)
      have hst : ((sortI (known.map (·.1))).take (j + 1)).foldl (hereStep m0 m1 fk.2 known) [] = ([0, 1, 2, 3] : List Int).foldl (gapStep m0 m1 fk.2 x here) (((sortI (known.map (·.1))).take j).foldl (hereStep m0 m1 fk.2 known) []) := by
        rw [List.take_add_one, hj, List.foldl_append]
        show hereStep m0 m1 fk.2 known _ here = _
        unfold hereStep
        rw [hx]
        rfl
      have hlen := fun k => ok2' j k x here hj
      refine ⟨_, _, dg_name 8 nd, ?_⟩
      generalize ((sortI (known.map (·.1))).take j).foldl (hereStep m0 m1 fk.2 known) [] = kd0 at *
      refine ds_for (fun k g => ∃ b9 b10 b11, g = ⟨[.d (encFs fs), .d (encH h), .d (encH h'), .v (.ref q), .d (.str fk.1), .d (.int fk.2), .v (.ref b), .d (.list [.int m0, .int m1]), .d (.int here), b9, b10, b11], [(q, .dk (encKD known)), (b, .dk (encKD ((([0, 1, 2, 3] : List Int).take k).foldl (gapStep m0 m1 fk.2 x here) kd0)))]⟩) PassesOwn.never rfl
        (di_range1 T.range (de_is (d' := .int 4) (de_callB (cd_maxT ⟨by simp [alike], by simp⟩ (by decide +kernel) hu) T.max (dad_cons (de_ga T.si) dad_nil)) maxSz) (by decide)) ⟨_, _, _, rfl⟩ ?_ ?_
      · rintro F3 k d gi hdk ⟨b9, b10, b11, rfl⟩
        obtain ⟨hk, rfl⟩ := upTo_get hdk
        have hk4 : k < 4 := hk
        rw [Int.zero_add]
        have hg4 : ([0, 1, 2, 3] : List Int)[k]? = some (k : Int) := by
          match k, hk4 with
          | 0, _ => rfl
          | 1, _ => rfl
          | 2, _ => rfl
          | 3, _ => rfl
        have hs1 : (([0, 1, 2, 3] : List Int).take (k + 1)).foldl (gapStep m0 m1 fk.2 x here) kd0 = gapStep m0 m1 fk.2 x here ((([0, 1, 2, 3] : List Int).take k).foldl (gapStep m0 m1 fk.2 x here) kd0) k := by
          rw [List.take_add_one, hg4, List.foldl_append]
          rfl
        have hl := hlen k
        refine ⟨_, _, dg_name 9 nd, ?_⟩
        rw [hs1]
        generalize (([0, 1, 2, 3] : List Int).take k).foldl (gapStep m0 m1 fk.2 x here) kd0 = kd at *
        refine ds_set 10 nd (de_call C3 hr (dad_cons (de_bin o_add (de_var 8) (de_var 9)) (dad_cons (de_ixL (de_var 7) de_int rfl) dad_nil)) ⟨_, _, rfl, p0, by omega, rfl⟩) ?_
        refine ds_ifx (k := decide (upTo' (here + (k : Int)) m0 = upTo' (here + (k : Int)) m1)) (dt_cmp o_eq (de_var 10) (de_call C3 hr (dad_cons (de_bin o_add (de_var 8) (de_var 9)) (dad_cons (de_ixL (de_var 7) de_int rfl) dad_nil)) ⟨_, _, rfl, r0, by omega, rfl⟩)) (fun he => ?_) fun he => ?_
        · have he := of_decide_eq_true he
          have fk1 : fndK (encKD known) (.inl here) = some (.d (.tuple [.int x.1, .list (x.2.map .int)])) := by rw [fnd_enc, hx]; rfl
          refine ds_set 11 nd (de_is (d' := moreD (x.1 + (k : Int), x.2 ++ [(k : Int)])) (de_tup (dad_cons (de_bin o_add (de_ixT (de_dget (j := 0) (de_varV 3) (de_var 8) rfl fk1 hu1) de_int rfl) (de_var 9)) (dad_cons (de_share (dn_cat (de_ixT (de_dget (j := 0) (de_varV 3) (de_var 8) rfl fk1 hu1) de_int rfl) (de_lst (dad_cons (de_var 9) dad_nil)) (by rw [List.length_map]; simp; omega))) dad_nil))) (by unfold moreD; rw [List.map_append]; rfl)) ?_
          rw [gapStep_eq he, ← set_enc]
          have eg : ∀ kk : Int, ∀ mm : Mo, (fndK (encKD kd) (.inl kk)).getD (.d (moreD mm)) = .d (moreD ((kfnd kd kk).getD mm)) := fun kk mm => by rw [fnd_enc]; cases kfnd kd kk <;> rfl
          have em : ∀ aa bb : Mo, (if dataLt (moreD bb) (moreD aa) = true then moreD bb else moreD aa) = moreD (minM aa bb) := fun aa bb => by unfold minM; split <;> rfl
          refine ds_dset (j := 1) (de_is (d' := moreD (minM ((kfnd kd (upTo' (here + (k : Int)) m0 + fk.2)).getD (x.1 + (k : Int), x.2 ++ [(k : Int)])) (x.1 + (k : Int), x.2 ++ [(k : Int)]))) (de_callB (cd_minTwo ⟨fun a ha b hb => ?_, fun a ha => ?_⟩ ?_ hu) T.min (dad_cons (de_sl (de_dget2 (j := 1) (de_varV 6) (de_bin o_add (de_var 10) (de_var 5)) (de_var 11) rfl hu1) (eg _ _)) (dad_cons (de_var 11) dad_nil))) (em _ _)) (de_varV 6) (de_bin o_add (de_var 10) (de_var 5)) rfl (by unfold encKD; rw [List.length_map]; exact hl) hu1 ?_
          · simp only [List.mem_cons, List.not_mem_nil, or_false] at ha hb
            rcases ha with rfl | rfl <;> rcases hb with rfl | rfl <;> exact alike_more _ _
          · simp only [List.mem_cons, List.not_mem_nil, or_false] at ha
            rcases ha with rfl | rfl <;> simp [moreD]
          · have pm : ∀ m : Mo, Pl 2 (moreD m) := fun m => pl_tup (pl_cons (pl_int _) (pl_cons (pl_ints _) pl_nil))
            exact Nat.le_trans (pl_all (n := 2) (pl_cons (pm _) (pl_cons (pm _) pl_nil))).2 (by decide)
          · exact ds_nil (ds_nil ⟨_, _, _, rfl⟩)
        · rw [gapStep_ne (of_decide_eq_false he)]
          exact ds_nil ⟨_, _, _, rfl⟩
      · rintro gn ⟨b9, b10, b11, rfl⟩
        refine ds_nil ?_
        show ∃ b8 b9 b10 b11, _ = _
        rw [hst]
        exact ⟨_, _, _, _, rfl⟩
    · rintro gn ⟨b8, b9, b10, b11, rfl⟩
      rw [List.length_map, List.take_length]
      have kst2 : (sortI (known.map (·.1))).foldl (hereStep m0 m1 fk.2 known) [] = knownF h.align h'.align (fs.take (i + 1)) := by
        rw [kst]
        unfold fieldStep
        rw [e0, e1]
      rw [kst2]
      refine ds_set 3 nd (de_varV 6) ?_
      refine ds_drop 0 ?_
      exact ds_nil ⟨_, _, _, _, _, _, _, _, _, rfl⟩
  · rintro gn ⟨q, b4, b5, b6, b7, b8, b9, b10, b11, rfl⟩
    rw [List.length_map, List.take_length]
    have ko := ok1 h.align h'.align fs fs.length vh.al vh'.al v
    rw [List.take_length] at ko
    unfold filledF at hd
    generalize knownF h.align h'.align fs = known at *
    have hvs : (encKD known).map (·.2) = ((known.map fun e => moreD e.2).map Sl.d) := by
      unfold encKD
      rw [List.map_map, List.map_map]
      rfl
    cases known with
    | nil => exact absurd rfl hne
    | cons e rest =>
    have hu : (A.deeper (envOfC "filled" (defScope s_filled) s.heap.objs.size f cdv)).units + 65 < cLine := by
      have h1 := hr.un
      omega
    have hd' : PySem.W.minD (moreD e.2) (rest.map fun e => moreD e.2) = .tuple [.int s0, d] := by
      rw [← hd]
      show _ = PySem.W.minD (moreD e.2) ((rest.map (·.2)).map moreD)
      rw [List.map_map]
      rfl
    have pm : ∀ m : Mo, Pl 2 (moreD m) := fun m => pl_tup (pl_cons (pl_int _) (pl_cons (pl_ints _) pl_nil))
    have hal : AlikeAll (moreD e.2 :: rest.map fun e => moreD e.2) := by
      have hm : ∀ a ∈ (moreD e.2 :: rest.map fun e => moreD e.2), ∃ m, a = moreD m := fun a ha => by
        rcases List.mem_cons.mp ha with rfl | ha
        · exact ⟨_, rfl⟩
        · obtain ⟨y, _, rfl⟩ := List.mem_map.mp ha
          exact ⟨_, rfl⟩
      refine ⟨fun a ha b hb => ?_, fun a ha => ?_⟩
      · obtain ⟨m, rfl⟩ := hm a ha
        obtain ⟨m', rfl⟩ := hm b hb
        exact alike_more _ _
      · obtain ⟨m, rfl⟩ := hm a ha
        simp [moreD]
    have hsh : SeqAt.shaped (.list (moreD e.2 :: rest.map fun e => moreD e.2)) = true := (pl_list (n := 2) (pl_cons (pm _) (pl_map fun y _ => pm _))).sh
    exact ds_ret (de_ixT (de_is (de_callB (cd_minL hal hsh hu) T.min (dad_cons (de_share (ds := moreD e.2 :: rest.map fun e => moreD e.2) (by rw [show (moreD e.2 :: rest.map fun e => moreD e.2).map Sl.d = (encKD (e :: rest)).map (·.2) from hvs.symm]; exact dn_listVals (j := 0) T.list (de_varV 3) rfl)) dad_nil)) hd') de_int rfl) rfl
end
end Pr
end DL
end L2
set_option Elab.async false
set_option linter.all false
set_option maxRecDepth 100000
set_option maxHeartbeats 4000000
namespace L2
namespace DL
namespace Pr
open PySem PySem.Spec PyProof.Rows
section
variable {P : Program} {w : World} {K : PySem.W.Frag} {mg : Str → Option Value} {base : Heap}
theorem known_take {a1 a2 : Int} {fs : List Field} (h1 : isSize a1) (v : ValidFs fs) (i : Nat) : ∃ n, n ≤ 6 ∧ KIn ((10 * n : Nat) : Int) n (knownF a1 a2 (fs.take i)) := by
  have h6 := v.most
  refine ⟨(fs.take i).length, by rw [List.length_take]; omega, knownF_in h1 _ fun f hf => v.size f (List.mem_of_mem_take hf)⟩
theorem kset_len (kd : KD) (k : Int) (v : Mo) : (kset kd k v).length ≤ kd.length + 1 := by
  unfold kset
  split
  · rw [List.length_map]; omega
  · rw [List.length_append]; simp
theorem gapStep_len (s0 s1 size here gap : Int) (x : Mo) (kd : KD) : (gapStep s0 s1 size x here kd gap).length ≤ kd.length + 1 := by
  unfold gapStep
  split
  · exact kset_len _ _ _
  · omega
theorem gaps_len (s0 s1 size here : Int) (x : Mo) : ∀ (gs : List Int) (kd : KD), (gs.foldl (gapStep s0 s1 size x here) kd).length ≤ kd.length + gs.length
  | [], _ => Nat.le_refl _
  | g :: gs, kd => by
    have h1 := gaps_len s0 s1 size here x gs (gapStep s0 s1 size x here kd g)
    have h2 := gapStep_len s0 s1 size here g x kd
    rw [List.foldl_cons, List.length_cons]
    omega
theorem ok_filled_ {f : Addr} {fd : FuncData} (Fn : Fun K "filled" "filled" s_filled f fd) (T : Ty K mg) (hsd : mg "sorted" = none) (C1 : Cal P w K mg base 2 "need_fields" (spP K R_need_fields)) (C2 : Cal P w K mg base 1 "need_hand" (spP K R_need_hand)) (C3 : Cal P w K mg base 1 "up_to" (spP K R_up_to)) :
    FnOk P w K mg base CX0 3 f fd P_filled (spP K R_filled) := by
  refine ok_filled Fn T hsd C1 C2 C3 (fun a1 a2 fs i h1 h2 v => ?_) (fun a1 a2 fs i f h1 h2 v hf j k x here hj => ?_) (fun a1 a2 fs i h1 h2 v e he => ?_)
  · obtain ⟨n, hn, h⟩ := known_take (a2 := a2) h1 v i
    have := h.length
    exact ⟨h.nd, by omega⟩
  · obtain ⟨n, hn, h⟩ := known_take (a2 := a2) h1 v i
    have hs := v.size f (List.mem_of_getElem? hf)
    have h3 := KIn.heres (s1 := min f.2 a2) h (min_size hs h1) hs ((sortI ((knownF a1 a2 (fs.take i)).map (·.1))).take j) (kd := []) KIn.nil fun y hy => sortI_mem.mp (List.mem_of_mem_take hy)
    have h3 : KIn ((10 * n + 10 : Nat) : Int) (n + 1) _ := h3
    have l3 := h3.length
    have l4 := gaps_len (min f.2 a1) (min f.2 a2) f.2 here x (([0, 1, 2, 3] : List Int).take k) (((sortI ((knownF a1 a2 (fs.take i)).map (·.1))).take j).foldl (hereStep (min f.2 a1) (min f.2 a2) f.2 (knownF a1 a2 (fs.take i))) [])
    have l5 : (([0, 1, 2, 3] : List Int).take k).length ≤ 4 := by rw [List.length_take]; exact Nat.min_le_right _ _
    omega
  · obtain ⟨n, hn, h⟩ := known_take (a2 := a2) h1 v i
    have := h.len e he
    omega
end
end Pr
end DL
end L2
set_option Elab.async false
set_option linter.all false
set_option maxRecDepth 100000
set_option maxHeartbeats 4000000
namespace L2
namespace DL
namespace Pr
open PySem PySem.Spec PyProof.Rows
open PySem.W (dataLt dataLe alike alikeAll)
/-! all lists of gaps -/
theorem flat_len {F : List Int → List (List Int)} (h : ∀ r, (F r).length = 4) : ∀ l : List (List Int), (l.flatMap F).length = 4 * l.length
  | [] => rfl
  | r :: l => by rw [List.flatMap_cons, List.length_append, h, flat_len h l, List.length_cons]; omega
theorem find_at {α : Type} {p : α → Bool} : ∀ {l : List α} {i : Nat} {x : α}, l[i]? = some x → p x = true → (∀ y ∈ l.take i, p y = false) → l.find? p = some x
  | [], _, _, h, _, _ => by simp at h
  | y :: l, 0, x, h, hp, _ => by cases h; rw [List.find?_cons_of_pos hp]
  | y :: l, i + 1, x, h, hp, hn => by
    rw [List.find?_cons_of_neg (by rw [hn y (by simp)]; simp)]
    exact find_at (by simpa using h) hp fun z hz => hn z (by rw [List.take_succ_cons]; exact List.mem_cons_of_mem _ hz)
def R_all_gaps (ds : List PyData) (d : PyData) : Prop := ∃ n : Nat, ds = [.int n] ∧ n ≤ 6 ∧ d = .list ((sortG n).map encI)
def R_best (ds : List PyData) (d : PyData) : Prop := ∃ (fs : List Field) (h h' : Hand), ds = [encFs fs, encH h, encH h'] ∧ ValidFs fs ∧ ValidH h ∧ ValidH h' ∧ d = encI (bestF h.align h'.align fs)
section
variable {P : Program} {w : World} {K : PySem.W.Frag} {mg : Str → Option Value} {base : Heap}
theorem ok_all_gaps {f : Addr} {fd : FuncData} (Fn : Fun K "_law_all_gaps" "_law_all_gaps" s_law_all_gaps f fd) (T : Ty K mg) (hsd : mg "sorted" = none) (hsm : mg "sum" = none) : FnOk P w K mg base CX0 1 f fd P_law_all_gaps (spP K R_all_gaps) := by
  have nd := sc_law_all_gaps.nd
  refine okP Fn sc_law_all_gaps (by rintro _ _ ⟨n, rfl, _⟩; rfl) fun f cdv A outer s H E hr F ds d hM hR => ?_
  obtain ⟨n, rfl, hn, rfl⟩ := hR
  refine ds_set 1 nd (de_is (d' := .list ((allG 0).map encI)) (de_lst (dad_cons (de_lst dad_nil) dad_nil)) rfl) ?_
  refine ds_for (fun i g => ∃ b2 b3 b4 b5 b6, g = ⟨[.d (.int n), .d (.list ((allG i).map encI)), b2, b3, b4, b5, b6], []⟩) PassesOwn.never rfl (di_range1 T.range (de_var 0) (by omega)) ⟨_, _, _, _, _, rfl⟩ ?_ ?_
  · rintro F' i d gi hdi ⟨b2, b3, b4, b5, b6, rfl⟩
    obtain ⟨hi, rfl⟩ := upTo_get hdi
    rw [Int.toNat_natCast] at hi
    refine ⟨_, _, dg_name 2 nd, ?_⟩
    have hlen := allG_len i
    have hle : (4 : Nat) ^ i ≤ 4 ^ 5 := Nat.pow_le_pow_right (by decide) (by omega)
    have h45 : (4 : Nat) ^ 5 = 1024 := by decide
    refine ds_set 3 nd (de_is (d' := .list ((((allG i).take 0).flatMap fun r => ([0, 1, 2, 3] : List Int).map fun g => r ++ [g]).map encI)) (de_lst dad_nil) rfl) ?_
    refine ds_for (fun j g => ∃ b4 b5 b6, g = ⟨[.d (.int n), .d (.list ((allG i).map encI)), .d (.int (0 + (i : Int))), .d (.list ((((allG i).take j).flatMap fun r => ([0, 1, 2, 3] : List Int).map fun g => r ++ [g]).map encI)), b4, b5, b6], []⟩) PassesOwn.never rfl (di_list (de_var 1)) ⟨_, _, _, rfl⟩ ?_ ?_
    · rintro F'' j d gi hdj ⟨b4, b5, b6, rfl⟩
      rw [List.getElem?_map] at hdj
      cases hj : (allG i)[j]? with
      | none => rw [hj] at hdj; cases hdj
      | some r =>
      rw [hj] at hdj
      cases hdj
      have hjl : j < 4 ^ i := by have := (List.getElem?_eq_some_iff.mp hj).1; omega
      have hrl : r.length = i := (mem_allG.mp (List.mem_of_getElem? hj)).1
      have hst : ((allG i).take (j + 1)).flatMap (fun r => ([0, 1, 2, 3] : List Int).map fun g => r ++ [g]) = ((allG i).take j).flatMap (fun r => ([0, 1, 2, 3] : List Int).map fun g => r ++ [g]) ++ (([0, 1, 2, 3] : List Int).map fun g => r ++ [g]) := by
        rw [List.take_add_one, hj, List.flatMap_append]
        simp
      have hl4 : (((allG i).take j).flatMap fun r => ([0, 1, 2, 3] : List Int).map fun g => r ++ [g]).length = 4 * j := by
        rw [flat_len (fun _ => rfl), List.length_take, hlen]; omega
      rw [hst]
      generalize ((allG i).take j).flatMap (fun r => ([0, 1, 2, 3] : List Int).map fun g => r ++ [g]) = lg at *
      refine ⟨_, _, dg_name 4 nd, ?_⟩
      refine ds_set 3 nd (de_is (d' := .list ((lg ++ ([0, 1, 2, 3] : List Int).map fun g => r ++ [g]).map encI)) (de_share (dn_cat (de_var 3) (de_share (dn_lcM (own := [("_law_gap", 5)]) (enc := fun i : Nat => .int (0 + (i : Int))) (xs := List.range 4) (f := fun g : Nat => encI (r ++ [0 + (g : Int)])) nd (di_range1 T.range (de_int (i := 4)) (by decide)) (fun g hg => ⟨_, _, fun _ _ _ _ _ _ => dg_name 5 nd, by simp, fun _ _ _ _ _ _ => de_is (de_share (dn_cat (de_var 4) (de_lst (dad_cons (de_var 5) dad_nil)) (by rw [List.length_map]; simp; omega))) (by unfold encI; rw [List.map_append]; rfl)⟩) (by simp) (blkOk_by (N := N_law_all_gaps) (sc := defScope s_law_all_gaps) (by decide +kernel)))) (by rw [List.length_map, List.length_map, List.length_range]; omega))) ?_) ?_
      · rw [List.map_append]; rfl
      · exact ds_nil ⟨_, _, _, rfl⟩
    · rintro gn ⟨b4, b5, b6, rfl⟩
      rw [List.length_map, List.take_length]
      refine ds_set 1 nd (de_var 3) (ds_nil ⟨_, _, _, _, _, rfl⟩)
  · rintro gn ⟨b2, b3, b4, b5, b6, rfl⟩
    rw [upTo_length, Int.toNat_natCast]
    have hu : (A.deeper (envOfC "_law_all_gaps" (defScope s_law_all_gaps) s.heap.objs.size f cdv)).units + 65 < cLine := by
      have h1 := hr.un
      omega
    have hle : (4 : Nat) ^ n ≤ 4 ^ 6 := Nat.pow_le_pow_right (by decide) hn
    have h46 : (4 : Nat) ^ 6 = 4096 := by decide
    have hlen := allG_len n
    have pm : ∀ m : Mo, Pl 2 (moreD m) := fun m => pl_tup (pl_cons (pl_int _) (pl_cons (pl_ints _) pl_nil))
    have hst : ((pairG n).map moreD).mergeSort (dataLe false id) = ((pairG n).mergeSort (dataLe false moreD)).map moreD := (PySem.W.sort_maps (r := dataLe false moreD) (s := dataLe false id) moreD (l := pairG n) fun _ _ _ _ => rfl).symm
    have hsl : ((pairG n).mergeSort (dataLe false moreD)).length = 4 ^ n := by rw [(List.mergeSort_perm _ _).length_eq]; unfold pairG; rw [List.length_map, hlen]
    refine ds_ret (de_is (de_share (dn_lcM (own := [("_law_pair", 6)]) (enc := moreD) (xs := (pairG n).mergeSort (dataLe false moreD)) (f := fun x => encI x.2) nd (di_list (de_is (d' := .list (((pairG n).mergeSort (dataLe false moreD)).map moreD)) (de_share (dn_sortL (ds := (pairG n).map moreD) hsd (de_is (de_share (dn_lcM (own := [("_law_row", 4)]) (enc := encI) (xs := allG n) (f := fun r => moreD (r.sum, r)) nd (di_list (de_var 1)) (fun r hr' => ⟨_, _, fun _ _ _ _ _ _ => dg_name 4 nd, by simp, fun _ _ _ _ _ _ => de_tup (dad_cons (de_callB cd_sum hsm (dad_cons (de_var 4) dad_nil)) (dad_cons (de_var 4) dad_nil))⟩) (by omega) (blkOk_by (N := N_law_all_gaps) (sc := defScope s_law_all_gaps) (by decide +kernel)))) (by unfold pairG; rw [List.map_map]; rfl)) (PySem.W.AllAlike.of alike_more) (PySem.W.Sortable.tuples fun m => ⟨_, _, rfl⟩) (fun d hd => ?_))) (by rw [hst]))) (fun x hx => ⟨_, _, fun _ _ _ _ _ _ => dg_name 6 nd, by simp, fun _ _ _ _ _ _ => de_ixT (de_is (d' := .tuple [.int x.1, encI x.2]) (de_var 6) rfl) de_int rfl⟩) (by omega) (blkOk_by (N := N_law_all_gaps) (sc := defScope s_law_all_gaps) (by decide +kernel)))) (by unfold sortG; rw [List.map_map]; rfl)) rfl
    obtain ⟨m, _, rfl⟩ := List.mem_map.mp hd
    have := (pm m).2
    refine Nat.lt_of_le_of_lt ?_ hu
    show (A.deeper (envOfC "_law_all_gaps" (defScope s_law_all_gaps) s.heap.objs.size f cdv)).units + 2 + _ ≤ _
    omega
/-! the first gaps by which both lay alike -/
theorem ok_lfilled {f : Addr} {fd : FuncData} (Fn : Fun K "_law_filled" "_law_filled" s_law_filled f fd) (T : Ty K mg) (C1 : Cal P w K mg base 1 "_law_all_gaps" (spP K R_all_gaps)) (C2 : Cal P w K mg base 1 "_law_places" (spP K R_places_of)) : FnOk P w K mg base CX0 2 f fd P_law_filled (spP K R_best) := by
  have nd := sc_law_filled.nd
  refine okP Fn sc_law_filled (by rintro _ _ ⟨fs, h, h', rfl, _⟩; rfl) fun f cdv A outer s H E hr F ds d hM hR => ?_
  obtain ⟨fs, h, h', rfl, v, vh, vh', rfl⟩ := hR
  have h6 := v.most
  have fb := find_best vh.al vh'.al fs v.size
  refine ds_for (fun i g => (∃ b, g = ⟨[.d (encFs fs), .d (encH h), .d (encH h'), b], []⟩) ∧ ∀ gs ∈ (sortG fs.length).take i, alikeG h.align h'.align fs gs = false) PassesOwn.never rfl
    (di_list (de_call C1 hr (dad_cons (de_callB cd_lenL T.len (dad_cons (de_var 0) dad_nil)) dad_nil) ⟨fs.length, by rw [List.length_map], h6, rfl⟩)) ⟨⟨_, rfl⟩, fun gs hg => absurd hg (by simp)⟩ ?_ ?_
  · rintro F' i d gi hdi ⟨⟨b, rfl⟩, hn⟩
    rw [List.getElem?_map] at hdi
    cases hi : (sortG fs.length)[i]? with
    | none => rw [hi] at hdi; cases hdi
    | some gs =>
    rw [hi] at hdi
    cases hdi
    have hgl := (mem_sortG.mp (List.mem_of_getElem? hi)).1
    refine ⟨_, _, dg_name 3 nd, ?_⟩
    refine ds_ifx (k := alikeG h.align h'.align fs gs) (dt_is (dt_cmp (o_eqD hr.units (pl_ints _).sh (pl_ints _).sh) (de_ixT (de_call C2 hr (dad_cons (de_var 0) (dad_cons (de_var 1) (dad_cons (de_var 3) dad_nil))) ⟨fs, h, gs, rfl, v.size, by omega, vh.al, hgl, rfl⟩) de_int rfl)
      (de_ixT (de_call C2 hr (dad_cons (de_var 0) (dad_cons (de_var 2) (dad_cons (de_var 3) dad_nil))) ⟨fs, h', gs, rfl, v.size, by omega, vh'.al, hgl, rfl⟩) de_int rfl)) (eqv_ints _ _)) (fun hk => ?_) fun hk => ?_
    · have := find_at hi hk hn
      rw [fb] at this
      rw [Option.some.inj this]
      exact ds_ret (de_var 3) rfl
    · refine ds_nil ⟨⟨_, rfl⟩, fun gs' hg' => ?_⟩
      rw [List.take_add_one, hi] at hg'
      rcases List.mem_append.mp hg' with z | z
      · exact hn gs' z
      · have : gs' = gs := by simpa using z
        rw [this]; exact hk
  · rintro gn ⟨⟨b, rfl⟩, hn⟩
    rw [List.length_map, List.take_length] at hn
    exfalso
    have := List.mem_of_find?_eq_some fb
    have h2 := List.find?_some fb
    rw [hn _ this] at h2
    cases h2
/-! need_gaps, spread -/
def gapsOk (fs : List Field) (gs : List Int) : Bool := decide (gs.length = fs.length) && gs.all fun g => decide (0 ≤ g) && decide (g ≤ 9)
theorem gaps_test {fs : List Field} {gs : List Int} : (!decide ((gs.length : Int) = (fs.length : Int)) || !PyData.eqv (.list ((gs.filter fun g => !(decide (0 ≤ g) && decide (g ≤ 9))).map .int)) (.list [])) = !gapsOk fs gs := by
  rw [eqv_nil, List.isEmpty_map]
  have e : (gs.filter fun g => !(decide (0 ≤ g) && decide (g ≤ 9))).isEmpty = gs.all fun g => decide (0 ≤ g) && decide (g ≤ 9) := by
    rw [Bool.eq_iff_iff, List.isEmpty_iff, List.filter_eq_nil_iff, List.all_eq_true]
    exact ⟨fun h x hx => by simpa using h x hx, fun h x hx => by simpa using h x hx⟩
  rw [e]
  unfold gapsOk
  have e2 : decide ((gs.length : Int) = (fs.length : Int)) = decide (gs.length = fs.length) := by rw [Bool.eq_iff_iff]; simp; omega
  rw [e2]
  cases decide (gs.length = fs.length) <;> simp
def R_need_gaps (ds : List PyData) (d : PyData) : Prop := ∃ (fs : List Field) (gs : List Int), ds = [encFs fs, encI gs] ∧ gs.length ≤ 1000 ∧ gapsOk fs gs = true ∧ d = .none
theorem ok_need_gaps {f : Addr} {fd : FuncData} (Fn : Fun K "need_gaps" "need_gaps" s_need_gaps f fd) (T : Tx K mg) (hm : ∃ t, mg "MOST_GAP" = some (.int 9 t)) : FnOk P w K mg base CX0 1 f fd P_need_gaps (spP K R_need_gaps) := by
  have nd := sc_need_gaps.nd
  refine okP Fn sc_need_gaps (by rintro _ _ ⟨fs, gs, rfl, _⟩; rfl) fun f cdv A outer s H E hr F ds d hM hR => ?_
  obtain ⟨fs, gs, rfl, hz, hg, rfl⟩ := hR
  refine ds_ifx (k := false) (dt_is (dt_w (dw_or (dt_cmp o_ne (de_callB cd_lenL T.len (dad_cons (de_var 1) dad_nil)) (de_callB cd_lenL T.len (dad_cons (de_var 0) dad_nil))) fun _ => dw_or1 (dt_cmp (o_neD hr.units (pl_ints _).sh rfl)
    (de_share (dn_lcF (own := [("gap", 2)]) (enc := .int) (xs := gs) (p := fun g => !(decide (0 ≤ g) && decide (g ≤ 9))) (f := .int) nd (di_list (de_var 1)) (fun c hc => ⟨_, _, fun _ _ _ _ _ _ => dg_name 2 nd, by simp, fun _ _ _ _ _ _ => dts_one (dt_not (dt_chain o_le o_le de_int (de_var 2) fun _ => de_gi hm)), fun _ _ _ _ _ _ _ => de_var 2⟩) (by omega) (blkOk_by (N := N_need_gaps) (sc := defScope s_need_gaps) (by decide +kernel)))) (de_lst dad_nil)))) ?_) (fun h => nomatch h) fun _ => ds_nil rfl
  rw [List.length_map, List.length_map, gaps_test, hg]
  rfl
theorem gapsOk_len {fs : List Field} {gs : List Int} (h : gapsOk fs gs = true) : gs.length = fs.length := by
  unfold gapsOk at h
  rw [Bool.and_eq_true, decide_eq_true_iff] at h
  exact h.1
def R_spread (ds : List PyData) (d : PyData) : Prop := ∃ (fs : List Field) (h : Hand) (gs : List Int), ds = [encFs fs, encH h, encI gs] ∧ ValidFs fs ∧ ValidH h ∧ gapsOk fs gs = true ∧ d = .tuple [encI (placesOf h.align fs gs).1, .int (placesOf h.align fs gs).2]
theorem ok_spread {f : Addr} {fd : FuncData} (Fn : Fun K "spread" "spread" s_spread f fd) (C1 : Cal P w K mg base 2 "need_fields" (spP K R_need_fields)) (C2 : Cal P w K mg base 1 "need_hand" (spP K R_need_hand)) (C3 : Cal P w K mg base 2 "places_of" (spP K R_places_of)) (C4 : Cal P w K mg base 1 "need_gaps" (spP K R_need_gaps)) : FnOk P w K mg base CX0 3 f fd P_spread (spP K R_spread) := by
  have nd := sc_spread.nd
  refine okP Fn sc_spread (by rintro _ _ ⟨fs, h, gs, rfl, _⟩; rfl) fun f cdv A outer s H E hr F ds d hM hR => ?_
  obtain ⟨fs, h, gs, rfl, hv, hh, hg, rfl⟩ := hR
  have h6 := hv.most
  have hl := gapsOk_len hg
  refine ds_expr (de_call C1 hr (dad_cons (de_var 0) dad_nil) ⟨fs, rfl, hv, rfl⟩) ?_
  refine ds_expr (de_call C2 hr (dad_cons (de_var 1) dad_nil) ⟨h, rfl, hh, rfl⟩) ?_
  refine ds_expr (de_call C4 hr (dad_cons (de_var 0) (dad_cons (de_var 2) dad_nil)) ⟨fs, gs, rfl, by omega, hg, rfl⟩) ?_
  exact ds_ret (de_call C3 hr (dad_cons (de_var 0) (dad_cons (de_var 1) (dad_cons (de_var 2) dad_nil))) ⟨fs, h, gs, rfl, hv.size, by omega, hh.al, hl, rfl⟩) rfl
/-- filled tells the least gaps -/
theorem cal_best (C : Cal P w K mg base 3 "filled" (spP K R_filled)) : Cal P w K mg base 3 "filled" (spP K R_best) := C.imp fun vs H Q E ⟨S, ds, d, h1, h2, h3, h4⟩ => by
  refine ⟨S, ds, d, h1, h2, ?_, h4⟩
  obtain ⟨fs, h, h', rfl, v, vh, vh', rfl⟩ := h3
  exact ⟨fs, h, h', rfl, v, vh, vh', knownF_ne vh.al vh'.al fs v.size, _, filledF_best _ _ _⟩
end
end Pr
end DL
end L2
set_option Elab.async false
set_option linter.all false
set_option maxRecDepth 100000
set_option maxHeartbeats 4000000
namespace L2
namespace DL
namespace Pr
open PySem PySem.Spec PyProof.Rows
/-- what is wanted behind a law's block, whatever the frame -/
structure DSA (X : Cx) (F : Fm) (g : G) (sts : List Stmt) (z : Z) : Prop where
  run : ∀ σ H D, Sat X.K F g σ H → (∀ F', ZOk X F' z D) → uS X sts D σ H
theorem okLaw0 {P : Program} {w : World} {K : PySem.W.Frag} {mg : Str → Option Value} {base : Heap} {x qual : Str} {st : Stmt} {f : Addr} {fd : FuncData} {N ps : List Str} {k : Nat} (Fn : Fun K x qual st f fd) (S : FnScope N ps (defScope st)) (hl : ps.length = 1)
    (h : ∀ f cdv A outer s H E, Room k (A.deeper (envOfC qual (defScope st) s.heap.objs.size f cdv)) → ∀ F a (ns : List Int), F.M = [] → F.S = [] → SqL K F.H0 a (ns.map V.int) → ns.length ≤ 63 →
      DSA (Xc P w K mg base N qual (defScope st) f cdv A outer s H E) F ⟨sl0 N.length [.v (.ref a)], []⟩ (defBody st) ⟨fun _ => False, fun _ r => r = .d (.bool true), fun _ => False, fun _ => False, fun _ _ _ => False⟩) :
    FnOk P w K mg base CX0 (k + 1) f fd ps (spLaw K) := by
  refine Fn.ok S (fun vs H Q E ⟨a, ns, e, _⟩ => by rw [e, hl]; rfl) (fun cdv A outer s H vs Q E hr ⟨a, ns, e, hq, hz, q⟩ => ?_)
  subst e
  refine ⟨_, pss_s, (h f cdv A outer s H E hr ⟨[], H, []⟩ a ns rfl rfl hq hz).run _ H _ ?_ fun F' => ?_⟩
  · exact ⟨start_ok (.cons rfl .nil), fun p hp => absurd hp (by simp), List.nodup_nil, fun b o e _ => e, fun a m => absurd m (by simp), fun a m => absurd m (by simp), fun a m => absurd m (by simp)⟩
  · refine ⟨fun g σ H' e s' => e.elim, fun g r σ v H' e s' k' => ?_, fun _ _ _ h => h.elim, fun _ _ _ h => h.elim, fun _ _ _ _ _ _ h => h.elim⟩
    subst e
    cases k' with
    | bl => exact q H'
section
variable {X : Cx} {F : Fm} {g : G} {rest : List Stmt} {z : Z}
/-- d = _law_dice(script, k), the rest in a frame that keeps nothing -/
theorem ds_dice0 (i j : Nat) {x y : Str} {p0 : Addr} {ns : List Int} {c : Int} {kk jl k : Nat} {p p1 p2 p3 pos pos2 : Pos} (C : CalX X jl "_law_dice" (spDc X.K)) (hr : Room k X.A) (nd : X.N.Nodup)
    (hq : SqL X.K F.H0 p0 (ns.map V.int)) (hz : ns.length ≤ 63) (hM : F.M = []) (hS : F.S = [])
    (kn : ∀ p l, Dc l → DS X F00 ⟨g.sl.set i (.v (.ref p)), g.ow ++ [(p, intsO l)]⟩ rest z)
    (hs : g.sl[j]? = some (.v (.ref p0)) := by rfl) (hN : X.N[j]? = some y := by rfl) (hv : Vis X.env.scope y := by first | exact Or.inl rfl | exact Or.inr (Or.inl rfl) | exact Or.inr (Or.inr rfl))
    (hd : (y == ("__debug__" : Str)) = false := by decide) (hcd : (y == ("__classdict__" : Str)) = false := by decide)
    (hk : jl ≤ k := by decide) (hg : Gl X "_law_dice" := by rfl) (hdb : ("_law_dice" == ("__debug__" : Str)) = false := by decide)
    (he : starEach (.Name y p1 :: [.Constant (.int c) kk p2]) X.env = (false, eval (.Name y p1) X.env) :: starEach [.Constant (.int c) kk p2] X.env := by rfl) (he2 : starEach [.Constant (.int c) kk p2] X.env = (false, eval (.Constant (.int c) kk p2) X.env) :: starEach [] X.env := by rfl)
    (hpl : (backTo pos2 (starEach [.Constant (.int c) kk p2] X.env)).any (·.1) = false := by rfl)
    (hi : X.N[i]? = some x := by rfl) (hx : Loc X.env.scope x := by first | exact Or.inl rfl | exact Or.inr rfl)
    (hsw : swapsWith (.Call (.Name "_law_dice" p) [.Name y p1, .Constant (.int c) kk p2] [] pos2) (some (.Name x p3)) pos.line X.env = pure false := by rfl) (hf : X.fn x = true ∨ X.env.scope.names.lookup x = some .local := by first | exact .inl rfl | exact .inr rfl) :
    DSA X F g (.Assign [.Name x p3] (.Call (.Name "_law_dice" p) [.Name y p1, .Constant (.int c) kk p2] [] pos2) pos :: rest) z := DSA.mk fun σ H D s zk => by
  refine uS_of (pss_cons (ps_set nd hi hx pe_s hsw hf) pss_s) (eS_call C hr hk hg hdb he hpl (aS_of (pa_cons (pe_var (i := j) hN hv hd hcd) (pa_cons pe_int pa_nil he2) he) ?_))
  obtain ⟨o, h1, h2⟩ := sat_slot s hs
  have eo : o = some (V.ref p0) := h2
  subst eo
  refine ⟨_, h1, ?_⟩
  refine ⟨p0, ns, c, rfl, same_l unhid (s.script hq hM hS), hz, fun q l H' hq' e hq2 hD => ?_⟩
  exact kn q l hD _ H' D ((Sat.setSl (g := ⟨g.sl, g.ow ++ [(q, intsO l)]⟩) (i := i) (r := .v (.ref q)) (s.born hq' e hq2 (ints_of l)) rfl).bare hS) (zk _)
end
structure Calls03 (P : Program) (w : World) (K : PySem.W.Frag) (mg : Str → Option Value) (base : Heap) : Prop where
  dice : Cal P w K mg base 1 "_law_dice" (spDc K)
  off : Cal P w K mg base 1 "_law_off" (spM K R_off)
  fields : Cal P w K mg base 4 "_law_fields" (spM K R_fields)
  hand : Cal P w K mg base 2 "_law_hand" (spM K R_hand)
  alike : Cal P w K mg base 2 "_law_alike" (spP K (R_alike 1))
  lfilled : Cal P w K mg base 2 "_law_filled" (spP K R_best)
  spread : Cal P w K mg base 3 "spread" (spP K R_spread)
  filled : Cal P w K mg base 3 "filled" (spP K R_best)
section
variable {P : Program} {w : World} {K : PySem.W.Frag} {mg : Str → Option Value} {base : Heap}
theorem best_gapsOk {a1 a2 : Int} {fs : List Field} {gs : List Int} (h : Good a1 a2 fs gs) : gapsOk fs gs = true := by
  unfold gapsOk
  rw [Bool.and_eq_true, decide_eq_true_iff, List.all_eq_true]
  refine ⟨h.len, fun g hg => ?_⟩
  have := h.inn g hg
  simp only [Bool.and_eq_true, decide_eq_true_iff]
  omega
theorem noL_fs {fs : List Field} {gs : List Int} (v : ValidFs fs) (hl : gs.length = fs.length) : noL (gs.map .int) (encFs fs) := by
  simp only [encFs, noL]
  refine ⟨fun e => ?_, noLs_map fun f _ => ?_⟩
  · have := v.pos
    cases fs with
    | nil => simp at this
    | cons f fs =>
      cases gs with
      | nil => simp at hl
      | cons g gs => simp [encF] at e
  · simp [encF, noL, noLs]
theorem noL_h {D : List PyData} (h : Hand) : noL D (encH h) := by simp [encH, noL, noLs]
theorem ok_law03 {f : Addr} {fd : FuncData} (Fn : Fun K "law" "law" s_law f fd) (T : Ty K mg) (C : Calls03 P w K mg base) : FnOk P w K mg base CX0 5 f fd P_law (spLaw K) := by
  have nd := sc_law.nd
  refine okLaw0 Fn sc_law rfl fun f cdv A outer s H E hr F a ns hM hS hq hz => ?_
  refine ds_dice0 1 0 C.dice hr nd hq hz hM hS fun p l hD => ?_
  refine ds_set 2 nd (de_callM C.fields hr (i := 1) (j := 0) (ha := dad_cons de_int dad_nil) (hR := ⟨6, rfl, hD, by decide, by decide, rfl, rfl⟩)) ?_
  have vf := fieldsF_ok (l := l) (m := 6) (by decide) (by decide)
  have hD := fieldsF_dc (m := 6) hD
  generalize (fieldsF l 6).2 = fs at *
  generalize (fieldsF l 6).1 = l1 at *
  refine ds_par 3 4 nd (de_callM C.hand hr (i := 1) (j := 0) (ha := dad_nil) (hR := ⟨rfl, hD, rfl, rfl⟩)) (de_callM C.hand hr (i := 1) (j := 0) (ha := dad_nil) (hR := ⟨rfl, handF_dc hD, rfl, rfl⟩)) ?_
  have vh := handF_ok l1
  have vh' := handF_ok (handF l1).1
  generalize (handF l1).2 = h at *
  generalize (handF (handF l1).1).2 = h' at *
  generalize (handF (handF l1).1).1 = l2 at *
  have h6 := vf.most
  have B := (best_is vh.al vh'.al fs vf.size).1
  have B2 := (best_is vh'.al vh.al fs vf.size).1
  have go := best_gapsOk B.good
  have hgl : (bestF h.align h'.align fs).length = fs.length := B.good.len
  have hgl0 : (bestF h.align h'.align fs).length ≠ 0 := by have := vf.pos; omega
  refine ds_for0 (fun i g => ∃ b5 b6, g = ⟨[.v (.ref a), .v (.ref p), .d (encFs fs), .d (encH h), .d (encH h'), b5, b6, .u], [(p, intsO l2)]⟩) PassesOwn.never rfl (di0_range T.range de_int (by decide)) ⟨_, _, rfl⟩ ?_ ?_
  · rintro i gi hi ⟨b5, b6, rfl⟩
    refine ⟨_, _, dg_name 5 nd, ?_⟩
    refine ds_set 6 nd (de_call C.filled hr (dad_cons (de_var 2) (dad_cons (de_var 3) (dad_cons (de_var 4) dad_nil))) ⟨fs, h, h', rfl, vf, vh, vh', rfl⟩) ?_
    generalize hgs : bestF h.align h'.align fs = gs at *
    have hE : PyData.list (gs.map .int) = encI gs := rfl
    refine ds_ifx (k := false) (dt_is (dt_w (dw_or (dt_not (dt_val (de_isi (T := "list") T.isinstance T.list (de_var 6) rfl))) fun _ => dw_or1 (dt_not (dt_val (k := true) (de_call C.alike hr (dad_cons (de_var 6) (dad_cons (de_share (dn_lcM (own := [("_law_gap", 7)]) (enc := .int) (xs := gs) (f := .int) nd (di_list (de_var 6)) (fun g hg => ⟨_, _, fun _ _ _ _ _ _ => dg_name 7 nd, by simp, fun _ _ _ _ _ _ => de_callTy cd_intI T.intT (dad_cons (de_var 7) dad_nil)⟩) (by omega) (blkOk_by (N := N_law) (sc := defScope s_law) (by decide +kernel)))) dad_nil)) ⟨_, rfl, alk_ints (by omega), rfl⟩))))) rfl) (fun h => nomatch h) fun _ => ?_
    refine ds_ifx (k := false) (dt_is (dt_cmp o_ne (de_callB cd_lenL T.len (dad_cons (de_var 6) dad_nil)) (de_callB cd_lenL T.len (dad_cons (de_var 2) dad_nil))) (by rw [List.length_map, List.length_map, hgl]; simp)) (fun h => nomatch h) fun _ => ?_
    refine ds_ifx (k := false) (dt_is (dt_cmp (o_neD hr.units (pl_ints _).sh (pl_ints _).sh) (de_ixT (de_call C.spread hr (dad_cons (de_var 2) (dad_cons (de_var 3) (dad_cons (de_var 6) dad_nil))) ⟨fs, h, gs, rfl, vf, vh, go, rfl⟩) de_int rfl) (de_ixT (de_call C.spread hr (dad_cons (de_var 2) (dad_cons (de_var 4) (dad_cons (de_var 6) dad_nil))) ⟨fs, h', gs, rfl, vf, vh', go, rfl⟩) de_int rfl)) ?_) (fun h => nomatch h) fun _ => ?_
    · rw [eqv_ints, show (placesOf h.align fs gs).1 = (placesOf h'.align fs gs).1 from B.good.eq]
      simp
    refine ds_ifx (k := false) (dt_is (dt_not (dt_val (k := true) (de_call C.alike hr (dad_cons (de_var 6) (dad_cons (de_call C.lfilled hr (dad_cons (de_var 2) (dad_cons (de_var 3) (dad_cons (de_var 4) dad_nil))) ⟨fs, h, h', rfl, vf, vh, vh', rfl⟩) dad_nil)) ⟨encI gs, by rw [hgs], alk_ints (by omega), rfl⟩))) rfl) (fun h => nomatch h) fun _ => ?_
    refine ds_adopt 6 (ns := gs) rfl (fun r hr => ?_) (fun y hy => ?_) fun q => ?_
    · have hr : r ∈ [Sl.v (.ref a), .v (.ref p), .d (encFs fs), .d (encH h), .d (encH h'), .d (.int (i : Nat)), .u, .u] := hr
      simp only [List.mem_cons, List.not_mem_nil, or_false] at hr
      rcases hr with rfl | rfl | rfl | rfl | rfl | rfl | rfl | rfl
      · trivial
      · trivial
      · exact noL_fs vf hgl
      · exact noL_h h
      · exact noL_h h'
      · simp [noSl, noL]
      · trivial
      · trivial
    · have hy : y ∈ [(p, intsO l2)] := hy
      rw [List.mem_singleton] at hy
      rw [hy]
      exact noOD_ints _
    refine ds_expr (de_append (j := 1) (de_varV 6) de_int rfl rfl (by rw [List.length_map, List.length_map]; omega)) ?_
    refine ds_forget 6 ?_
    refine ds_drop 1 ?_
    exact ds_nil ⟨_, _, rfl⟩
  · rintro gn ⟨b5, b6, rfl⟩
    refine ds_ret (de_is (de_cmp (o_eqD hr.units (pl_ints _).sh (pl_ints _).sh) (de_call C.filled hr (dad_cons (de_var 2) (dad_cons (de_var 4) (dad_cons (de_var 3) dad_nil))) ⟨fs, h', h, rfl, vf, vh', vh, rfl⟩) (de_call C.filled hr (dad_cons (de_var 2) (dad_cons (de_var 3) (dad_cons (de_var 4) dad_nil))) ⟨fs, h, h', rfl, vf, vh, vh', rfl⟩)) ?_) rfl
    rw [eqv_ints, best_symm vh'.al vh.al fs vf.size]
    simp
end
end Pr
end DL
end L2
set_option Elab.async false
set_option linter.all false
set_option maxRecDepth 100000
set_option maxHeartbeats 4000000
namespace L2
namespace DL
namespace Pr
open PySem PySem.Spec PyProof.Rows
theorem all_mk {l : PySem.W.OpenLaw} {w : World} {K : PySem.W.Frag} {h : Heap} {mg : Str → Option Value} {fa : Addr} (X : K.In h) (G : h.Ns mainGlobals mg) (hfa : mg "law" = some (.ref fa))
    {od0 an0 : Option Addr} {sl0 : Array (Option Value)} {oc0 kV0 dc0 pm0 cd0 ct0 : Value} {f0 : Addr} (a0 : PySem.W.nsIn K mainGlobals "is_name" = some (some (.ref f0))) (l0 : K.lookup f0 = some ⟨oc0, od0, .func (PySem.W.fnOf "is_name" "is_name" (defArgs s_is_name) (defBody s_is_name) (defScope s_is_name) .none kV0 dc0 pm0 an0 cd0 ct0), sl0⟩) (c0 : PySem.W.codeIn K cd0 "is_name" = true) (k0 : PySem.W.keepIn K (.ref f0) = true)
    {od1 an1 : Option Addr} {sl1 : Array (Option Value)} {oc1 kV1 dc1 pm1 cd1 ct1 : Value} {f1 : Addr} (a1 : PySem.W.nsIn K mainGlobals "need_fields" = some (some (.ref f1))) (l1 : K.lookup f1 = some ⟨oc1, od1, .func (PySem.W.fnOf "need_fields" "need_fields" (defArgs s_need_fields) (defBody s_need_fields) (defScope s_need_fields) .none kV1 dc1 pm1 an1 cd1 ct1), sl1⟩) (c1 : PySem.W.codeIn K cd1 "need_fields" = true) (k1 : PySem.W.keepIn K (.ref f1) = true)
    {od2 an2 : Option Addr} {sl2 : Array (Option Value)} {oc2 kV2 dc2 pm2 cd2 ct2 : Value} {f2 : Addr} (a2 : PySem.W.nsIn K mainGlobals "need_hand" = some (some (.ref f2))) (l2 : K.lookup f2 = some ⟨oc2, od2, .func (PySem.W.fnOf "need_hand" "need_hand" (defArgs s_need_hand) (defBody s_need_hand) (defScope s_need_hand) .none kV2 dc2 pm2 an2 cd2 ct2), sl2⟩) (c2 : PySem.W.codeIn K cd2 "need_hand" = true) (k2 : PySem.W.keepIn K (.ref f2) = true)
    {od3 an3 : Option Addr} {sl3 : Array (Option Value)} {oc3 kV3 dc3 pm3 cd3 ct3 : Value} {f3 : Addr} (a3 : PySem.W.nsIn K mainGlobals "need_gaps" = some (some (.ref f3))) (l3 : K.lookup f3 = some ⟨oc3, od3, .func (PySem.W.fnOf "need_gaps" "need_gaps" (defArgs s_need_gaps) (defBody s_need_gaps) (defScope s_need_gaps) .none kV3 dc3 pm3 an3 cd3 ct3), sl3⟩) (c3 : PySem.W.codeIn K cd3 "need_gaps" = true) (k3 : PySem.W.keepIn K (.ref f3) = true)
    {od4 an4 : Option Addr} {sl4 : Array (Option Value)} {oc4 kV4 dc4 pm4 cd4 ct4 : Value} {f4 : Addr} (a4 : PySem.W.nsIn K mainGlobals "up_to" = some (some (.ref f4))) (l4 : K.lookup f4 = some ⟨oc4, od4, .func (PySem.W.fnOf "up_to" "up_to" (defArgs s_up_to) (defBody s_up_to) (defScope s_up_to) .none kV4 dc4 pm4 an4 cd4 ct4), sl4⟩) (c4 : PySem.W.codeIn K cd4 "up_to" = true) (k4 : PySem.W.keepIn K (.ref f4) = true)
    {od5 an5 : Option Addr} {sl5 : Array (Option Value)} {oc5 kV5 dc5 pm5 cd5 ct5 : Value} {f5 : Addr} (a5 : PySem.W.nsIn K mainGlobals "places_of" = some (some (.ref f5))) (l5 : K.lookup f5 = some ⟨oc5, od5, .func (PySem.W.fnOf "places_of" "places_of" (defArgs s_places_of) (defBody s_places_of) (defScope s_places_of) .none kV5 dc5 pm5 an5 cd5 ct5), sl5⟩) (c5 : PySem.W.codeIn K cd5 "places_of" = true) (k5 : PySem.W.keepIn K (.ref f5) = true)
    {od6 an6 : Option Addr} {sl6 : Array (Option Value)} {oc6 kV6 dc6 pm6 cd6 ct6 : Value} {f6 : Addr} (a6 : PySem.W.nsIn K mainGlobals "spread" = some (some (.ref f6))) (l6 : K.lookup f6 = some ⟨oc6, od6, .func (PySem.W.fnOf "spread" "spread" (defArgs s_spread) (defBody s_spread) (defScope s_spread) .none kV6 dc6 pm6 an6 cd6 ct6), sl6⟩) (c6 : PySem.W.codeIn K cd6 "spread" = true) (k6 : PySem.W.keepIn K (.ref f6) = true)
    {od7 an7 : Option Addr} {sl7 : Array (Option Value)} {oc7 kV7 dc7 pm7 cd7 ct7 : Value} {f7 : Addr} (a7 : PySem.W.nsIn K mainGlobals "filled" = some (some (.ref f7))) (l7 : K.lookup f7 = some ⟨oc7, od7, .func (PySem.W.fnOf "filled" "filled" (defArgs s_filled) (defBody s_filled) (defScope s_filled) .none kV7 dc7 pm7 an7 cd7 ct7), sl7⟩) (c7 : PySem.W.codeIn K cd7 "filled" = true) (k7 : PySem.W.keepIn K (.ref f7) = true)
    {od8 an8 : Option Addr} {sl8 : Array (Option Value)} {oc8 kV8 dc8 pm8 cd8 ct8 : Value} {f8 : Addr} (a8 : PySem.W.nsIn K mainGlobals "_law_dice" = some (some (.ref f8))) (l8 : K.lookup f8 = some ⟨oc8, od8, .func (PySem.W.fnOf "_law_dice" "_law_dice" (defArgs s_law_dice) (defBody s_law_dice) (defScope s_law_dice) .none kV8 dc8 pm8 an8 cd8 ct8), sl8⟩) (c8 : PySem.W.codeIn K cd8 "_law_dice" = true) (k8 : PySem.W.keepIn K (.ref f8) = true)
    {od9 an9 : Option Addr} {sl9 : Array (Option Value)} {oc9 kV9 dc9 pm9 cd9 ct9 : Value} {f9 : Addr} (a9 : PySem.W.nsIn K mainGlobals "_law_off" = some (some (.ref f9))) (l9 : K.lookup f9 = some ⟨oc9, od9, .func (PySem.W.fnOf "_law_off" "_law_off" (defArgs s_law_off) (defBody s_law_off) (defScope s_law_off) .none kV9 dc9 pm9 an9 cd9 ct9), sl9⟩) (c9 : PySem.W.codeIn K cd9 "_law_off" = true) (k9 : PySem.W.keepIn K (.ref f9) = true)
    {od10 an10 : Option Addr} {sl10 : Array (Option Value)} {oc10 kV10 dc10 pm10 cd10 ct10 : Value} {f10 : Addr} (a10 : PySem.W.nsIn K mainGlobals "_law_mixed" = some (some (.ref f10))) (l10 : K.lookup f10 = some ⟨oc10, od10, .func (PySem.W.fnOf "_law_mixed" "_law_mixed" (defArgs s_law_mixed) (defBody s_law_mixed) (defScope s_law_mixed) .none kV10 dc10 pm10 an10 cd10 ct10), sl10⟩) (c10 : PySem.W.codeIn K cd10 "_law_mixed" = true) (k10 : PySem.W.keepIn K (.ref f10) = true)
    {od11 an11 : Option Addr} {sl11 : Array (Option Value)} {oc11 kV11 dc11 pm11 cd11 ct11 : Value} {f11 : Addr} (a11 : PySem.W.nsIn K mainGlobals "_law_names" = some (some (.ref f11))) (l11 : K.lookup f11 = some ⟨oc11, od11, .func (PySem.W.fnOf "_law_names" "_law_names" (defArgs s_law_names) (defBody s_law_names) (defScope s_law_names) .none kV11 dc11 pm11 an11 cd11 ct11), sl11⟩) (c11 : PySem.W.codeIn K cd11 "_law_names" = true) (k11 : PySem.W.keepIn K (.ref f11) = true)
    {od12 an12 : Option Addr} {sl12 : Array (Option Value)} {oc12 kV12 dc12 pm12 cd12 ct12 : Value} {f12 : Addr} (a12 : PySem.W.nsIn K mainGlobals "_law_fields" = some (some (.ref f12))) (l12 : K.lookup f12 = some ⟨oc12, od12, .func (PySem.W.fnOf "_law_fields" "_law_fields" (defArgs s_law_fields) (defBody s_law_fields) (defScope s_law_fields) .none kV12 dc12 pm12 an12 cd12 ct12), sl12⟩) (c12 : PySem.W.codeIn K cd12 "_law_fields" = true) (k12 : PySem.W.keepIn K (.ref f12) = true)
    {od13 an13 : Option Addr} {sl13 : Array (Option Value)} {oc13 kV13 dc13 pm13 cd13 ct13 : Value} {f13 : Addr} (a13 : PySem.W.nsIn K mainGlobals "_law_hand" = some (some (.ref f13))) (l13 : K.lookup f13 = some ⟨oc13, od13, .func (PySem.W.fnOf "_law_hand" "_law_hand" (defArgs s_law_hand) (defBody s_law_hand) (defScope s_law_hand) .none kV13 dc13 pm13 an13 cd13 ct13), sl13⟩) (c13 : PySem.W.codeIn K cd13 "_law_hand" = true) (k13 : PySem.W.keepIn K (.ref f13) = true)
    {od14 an14 : Option Addr} {sl14 : Array (Option Value)} {oc14 kV14 dc14 pm14 cd14 ct14 : Value} {f14 : Addr} (a14 : PySem.W.nsIn K mainGlobals "_law_places" = some (some (.ref f14))) (l14 : K.lookup f14 = some ⟨oc14, od14, .func (PySem.W.fnOf "_law_places" "_law_places" (defArgs s_law_places) (defBody s_law_places) (defScope s_law_places) .none kV14 dc14 pm14 an14 cd14 ct14), sl14⟩) (c14 : PySem.W.codeIn K cd14 "_law_places" = true) (k14 : PySem.W.keepIn K (.ref f14) = true)
    {od15 an15 : Option Addr} {sl15 : Array (Option Value)} {oc15 kV15 dc15 pm15 cd15 ct15 : Value} {f15 : Addr} (a15 : PySem.W.nsIn K mainGlobals "_law_all_gaps" = some (some (.ref f15))) (l15 : K.lookup f15 = some ⟨oc15, od15, .func (PySem.W.fnOf "_law_all_gaps" "_law_all_gaps" (defArgs s_law_all_gaps) (defBody s_law_all_gaps) (defScope s_law_all_gaps) .none kV15 dc15 pm15 an15 cd15 ct15), sl15⟩) (c15 : PySem.W.codeIn K cd15 "_law_all_gaps" = true) (k15 : PySem.W.keepIn K (.ref f15) = true)
    {od16 an16 : Option Addr} {sl16 : Array (Option Value)} {oc16 kV16 dc16 pm16 cd16 ct16 : Value} {f16 : Addr} (a16 : PySem.W.nsIn K mainGlobals "_law_filled" = some (some (.ref f16))) (l16 : K.lookup f16 = some ⟨oc16, od16, .func (PySem.W.fnOf "_law_filled" "_law_filled" (defArgs s_law_filled) (defBody s_law_filled) (defScope s_law_filled) .none kV16 dc16 pm16 an16 cd16 ct16), sl16⟩) (c16 : PySem.W.codeIn K cd16 "_law_filled" = true) (k16 : PySem.W.keepIn K (.ref f16) = true)
    {od17 an17 : Option Addr} {sl17 : Array (Option Value)} {oc17 kV17 dc17 pm17 cd17 ct17 : Value} {f17 : Addr} (a17 : PySem.W.nsIn K mainGlobals "_law_alike" = some (some (.ref f17))) (l17 : K.lookup f17 = some ⟨oc17, od17, .func (PySem.W.fnOf "_law_alike" "_law_alike" (defArgs s_law_alike) (defBody s_law_alike) (defScope s_law_alike) .none kV17 dc17 pm17 an17 cd17 ct17), sl17⟩) (c17 : PySem.W.codeIn K cd17 "_law_alike" = true) (k17 : PySem.W.keepIn K (.ref f17) = true)
    {od18 an18 : Option Addr} {sl18 : Array (Option Value)} {oc18 kV18 dc18 pm18 cd18 ct18 : Value} {f18 : Addr} (a18 : PySem.W.nsIn K mainGlobals "law" = some (some (.ref f18))) (l18 : K.lookup f18 = some ⟨oc18, od18, .func (PySem.W.fnOf "law" "law" (defArgs s_law) (defBody s_law) (defScope s_law) .none kV18 dc18 pm18 an18 cd18 ct18), sl18⟩) (c18 : PySem.W.codeIn K cd18 "law" = true) (k18 : PySem.W.keepIn K (.ref f18) = true)
    (z_len : PySem.W.nsIn K mainGlobals "len" = some none)
    (z_range : PySem.W.nsIn K mainGlobals "range" = some none)
    (z_min : PySem.W.nsIn K mainGlobals "min" = some none)
    (z_max : PySem.W.nsIn K mainGlobals "max" = some none)
    (z_zip : PySem.W.nsIn K mainGlobals "zip" = some none)
    (z_enumerate : PySem.W.nsIn K mainGlobals "enumerate" = some none)
    (z_list : PySem.W.nsIn K mainGlobals "list" = some none)
    (z_reversed : PySem.W.nsIn K mainGlobals "reversed" = some none)
    (z_abs : PySem.W.nsIn K mainGlobals "abs" = some none)
    (z_isinstance : PySem.W.nsIn K mainGlobals "isinstance" = some none)
    (z_bool : PySem.W.nsIn K mainGlobals "bool" = some none)
    (z_int : PySem.W.nsIn K mainGlobals "int" = some none)
    (z_str : PySem.W.nsIn K mainGlobals "str" = some none)
    (z_tuple : PySem.W.nsIn K mainGlobals "tuple" = some none)
    (z_all : PySem.W.nsIn K mainGlobals "all" = some none)
    (z_sorted : PySem.W.nsIn K mainGlobals "sorted" = some none)
    (z_sum : PySem.W.nsIn K mainGlobals "sum" = some none)
    {t_MOST_FIELDS : Tok} (v_MOST_FIELDS : PySem.W.nsIn K mainGlobals "MOST_FIELDS" = some (some (.int 6 t_MOST_FIELDS)))
    {t_MOST_LETTERS : Tok} (v_MOST_LETTERS : PySem.W.nsIn K mainGlobals "MOST_LETTERS" = some (some (.int 6 t_MOST_LETTERS)))
    {t_LETTERS : Tok} (v_LETTERS : PySem.W.nsIn K mainGlobals "LETTERS" = some (some (.str "abcdefghijklmnopqrstuvwxyz" t_LETTERS)))
    {aSZ : Addr} {odSZ : Option Addr} {t1 t2 t4 : Tok} {nSZ : Nat} {slSZ : Array (Option Value)} (v_SIZES : PySem.W.nsIn K mainGlobals "SIZES" = some (some (.ref aSZ))) (lSZ : K.lookup aSZ = some ⟨.type "tuple", odSZ, .seq #[.int 1 t1, .int 2 t2, .int 4 t4] nSZ, slSZ⟩)
    {t_MOST_GAP : Tok} (v_MOST_GAP : PySem.W.nsIn K mainGlobals "MOST_GAP" = some (some (.int 9 t_MOST_GAP))) :
    ∃ fd : FuncData, (∀ (s : Shared) (v : Value), BindsTo s fd ⟨[v], []⟩ [("_law_script", v)]) ∧ ∀ base : Heap, K.In base → base.Ns mainGlobals mg → FnOk l.prog w K mg base CX0 5 fa fd ["_law_script"] (spLaw K) := by
  have e := hfa.symm.trans (PySem.W.mg_of X G a18)
  cases e
  have T : Ty K mg := { len := PySem.W.mg_none_of X G z_len, range := PySem.W.mg_none_of X G z_range, min := PySem.W.mg_none_of X G z_min, max := PySem.W.mg_none_of X G z_max, zip := PySem.W.mg_none_of X G z_zip, enumerate := PySem.W.mg_none_of X G z_enumerate, list := PySem.W.mg_none_of X G z_list, reversed := PySem.W.mg_none_of X G z_reversed, abs := PySem.W.mg_none_of X G z_abs, isinstance := PySem.W.mg_none_of X G z_isinstance, boolT := PySem.W.mg_none_of X G z_bool, intT := PySem.W.mg_none_of X G z_int, strT := PySem.W.mg_none_of X G z_str, tupleT := PySem.W.mg_none_of X G z_tuple, all := PySem.W.mg_none_of X G z_all, mf := ⟨_, PySem.W.mg_of X G v_MOST_FIELDS⟩, ml := ⟨_, PySem.W.mg_of X G v_MOST_LETTERS⟩, le := ⟨_, PySem.W.mg_of X G v_LETTERS⟩, si := ⟨_, PySem.W.mg_of X G v_SIZES, sz_data lSZ⟩ }
  have F_is_name := fun_mk (st := s_is_name) l0 c0 k0
  have F_need_fields := fun_mk (st := s_need_fields) l1 c1 k1
  have F_need_hand := fun_mk (st := s_need_hand) l2 c2 k2
  have F_need_gaps := fun_mk (st := s_need_gaps) l3 c3 k3
  have F_up_to := fun_mk (st := s_up_to) l4 c4 k4
  have F_places_of := fun_mk (st := s_places_of) l5 c5 k5
  have F_spread := fun_mk (st := s_spread) l6 c6 k6
  have F_filled := fun_mk (st := s_filled) l7 c7 k7
  have F_law_dice := fun_mk (st := s_law_dice) l8 c8 k8
  have F_law_off := fun_mk (st := s_law_off) l9 c9 k9
  have F_law_mixed := fun_mk (st := s_law_mixed) l10 c10 k10
  have F_law_names := fun_mk (st := s_law_names) l11 c11 k11
  have F_law_fields := fun_mk (st := s_law_fields) l12 c12 k12
  have F_law_hand := fun_mk (st := s_law_hand) l13 c13 k13
  have F_law_places := fun_mk (st := s_law_places) l14 c14 k14
  have F_law_all_gaps := fun_mk (st := s_law_all_gaps) l15 c15 k15
  have F_law_filled := fun_mk (st := s_law_filled) l16 c16 k16
  have F_law_alike := fun_mk (st := s_law_alike) l17 c17 k17
  have F_law := fun_mk (st := s_law) l18 c18 k18
  refine ⟨PySem.W.fnOf "law" "law" (defArgs s_law) (defBody s_law) (defScope s_law) .none kV18 dc18 pm18 an18 cd18 ct18, fun s v => .of_eq rfl, fun base _ _ => ?_⟩
  have C_is_name : Cal l.prog w K mg base 1 "is_name" (spP K R_isn) := ⟨_, _, _, ok_is_name F_is_name T.toTx, PySem.W.mg_of X G a0, k0, F_is_name.binds (ps := P_is_name) fun _ _ _ _ _ _ us hl => match us, hl with | [_], _ => rfl⟩
  have C_need_fields : Cal l.prog w K mg base 2 "need_fields" (spP K R_need_fields) := ⟨_, _, _, ok_need_fields F_need_fields T.toTx C_is_name, PySem.W.mg_of X G a1, k1, F_need_fields.binds (ps := P_need_fields) fun _ _ _ _ _ _ us hl => match us, hl with | [_], _ => rfl⟩
  have C_need_hand : Cal l.prog w K mg base 1 "need_hand" (spP K R_need_hand) := ⟨_, _, _, ok_need_hand F_need_hand T.toTx, PySem.W.mg_of X G a2, k2, F_need_hand.binds (ps := P_need_hand) fun _ _ _ _ _ _ us hl => match us, hl with | [_], _ => rfl⟩
  have C_need_gaps : Cal l.prog w K mg base 1 "need_gaps" (spP K R_need_gaps) := ⟨_, _, _, ok_need_gaps F_need_gaps T.toTx ⟨_, PySem.W.mg_of X G v_MOST_GAP⟩, PySem.W.mg_of X G a3, k3, F_need_gaps.binds (ps := P_need_gaps) fun _ _ _ _ _ _ us hl => match us, hl with | [_, _], _ => rfl⟩
  have C_up_to : Cal l.prog w K mg base 1 "up_to" (spP K R_up_to) := ⟨_, _, _, ok_up_to F_up_to, PySem.W.mg_of X G a4, k4, F_up_to.binds (ps := P_up_to) fun _ _ _ _ _ _ us hl => match us, hl with | [_, _], _ => rfl⟩
  have C_places_of : Cal l.prog w K mg base 2 "places_of" (spP K R_places_of) := ⟨_, _, _, ok_places_of F_places_of T.toTx C_up_to, PySem.W.mg_of X G a5, k5, F_places_of.binds (ps := P_places_of) fun _ _ _ _ _ _ us hl => match us, hl with | [_, _, _], _ => rfl⟩
  have C_spread : Cal l.prog w K mg base 3 "spread" (spP K R_spread) := ⟨_, _, _, ok_spread F_spread C_need_fields C_need_hand C_places_of C_need_gaps, PySem.W.mg_of X G a6, k6, F_spread.binds (ps := P_spread) fun _ _ _ _ _ _ us hl => match us, hl with | [_, _, _], _ => rfl⟩
  have C_filled : Cal l.prog w K mg base 3 "filled" (spP K R_filled) := ⟨_, _, _, ok_filled_ F_filled T (PySem.W.mg_none_of X G z_sorted) C_need_fields C_need_hand C_up_to, PySem.W.mg_of X G a7, k7, F_filled.binds (ps := P_filled) fun _ _ _ _ _ _ us hl => match us, hl with | [_, _, _], _ => rfl⟩
  have C_law_dice : Cal l.prog w K mg base 1 "_law_dice" (spDc K) := ⟨_, _, _, ok_dice F_law_dice T, PySem.W.mg_of X G a8, k8, F_law_dice.binds (ps := P_law_dice) fun _ _ _ _ _ _ us hl => match us, hl with | [_, _], _ => rfl⟩
  have C_law_off : Cal l.prog w K mg base 1 "_law_off" (spM K R_off) := ⟨_, _, _, ok_off F_law_off T, PySem.W.mg_of X G a9, k9, F_law_off.binds (ps := P_law_off) fun _ _ _ _ _ _ us hl => match us, hl with | [_, _], _ => rfl⟩
  have C_law_mixed : Cal l.prog w K mg base 2 "_law_mixed" (spM K R_mixed) := ⟨_, _, _, ok_mixed F_law_mixed T C_law_off, PySem.W.mg_of X G a10, k10, F_law_mixed.binds (ps := P_law_mixed) fun _ _ _ _ _ _ us hl => match us, hl with | [_, _], _ => rfl⟩
  have C_law_names : Cal l.prog w K mg base 3 "_law_names" (spM K R_names) := ⟨_, _, _, ok_names F_law_names T C_law_off C_law_mixed, PySem.W.mg_of X G a11, k11, F_law_names.binds (ps := P_law_names) fun _ _ _ _ _ _ us hl => match us, hl with | [_], _ => rfl⟩
  have C_law_fields : Cal l.prog w K mg base 4 "_law_fields" (spM K R_fields) := ⟨_, _, _, ok_fields F_law_fields T C_law_off C_law_names, PySem.W.mg_of X G a12, k12, F_law_fields.binds (ps := P_law_fields) fun _ _ _ _ _ _ us hl => match us, hl with | [_, _], _ => rfl⟩
  have C_law_hand : Cal l.prog w K mg base 2 "_law_hand" (spM K R_hand) := ⟨_, _, _, ok_hand F_law_hand T C_law_off, PySem.W.mg_of X G a13, k13, F_law_hand.binds (ps := P_law_hand) fun _ _ _ _ _ _ us hl => match us, hl with | [_], _ => rfl⟩
  have C_law_places : Cal l.prog w K mg base 1 "_law_places" (spP K R_places_of) := ⟨_, _, _, ok_lplaces F_law_places T, PySem.W.mg_of X G a14, k14, F_law_places.binds (ps := P_law_places) fun _ _ _ _ _ _ us hl => match us, hl with | [_, _, _], _ => rfl⟩
  have C_law_all_gaps : Cal l.prog w K mg base 1 "_law_all_gaps" (spP K R_all_gaps) := ⟨_, _, _, ok_all_gaps F_law_all_gaps T (PySem.W.mg_none_of X G z_sorted) (PySem.W.mg_none_of X G z_sum), PySem.W.mg_of X G a15, k15, F_law_all_gaps.binds (ps := P_law_all_gaps) fun _ _ _ _ _ _ us hl => match us, hl with | [_], _ => rfl⟩
  have C_law_filled : Cal l.prog w K mg base 2 "_law_filled" (spP K R_best) := ⟨_, _, _, ok_lfilled F_law_filled T C_law_all_gaps C_law_places, PySem.W.mg_of X G a16, k16, F_law_filled.binds (ps := P_law_filled) fun _ _ _ _ _ _ us hl => match us, hl with | [_, _, _], _ => rfl⟩
  have C_alike0 : Cal l.prog w K mg base 1 "_law_alike" (spP K (R_alike 0)) := ⟨_, _, _, ok_alike 0 F_law_alike T (fun m e => nomatch e), PySem.W.mg_of X G a17, k17, F_law_alike.binds (ps := P_law_alike) fun _ _ _ _ _ _ us hl => match us, hl with | [_, _], _ => rfl⟩
  have C_alike1 : Cal l.prog w K mg base 2 "_law_alike" (spP K (R_alike 1)) := ⟨_, _, _, ok_alike 1 F_law_alike T (fun m e => by cases e; exact C_alike0), PySem.W.mg_of X G a17, k17, F_law_alike.binds (ps := P_law_alike) fun _ _ _ _ _ _ us hl => match us, hl with | [_, _], _ => rfl⟩
  exact ok_law03 F_law T ⟨C_law_dice, C_law_off, C_law_fields, C_law_hand, C_alike1, C_law_filled, C_spread, cal_best C_filled⟩
end Pr
end DL
end L2
open PySem PySem.W PyProof.Rows
set_option maxHeartbeats 0 in
theorem PySem.Challenge.cw_endshare_k03_whole_the_fewest_free_holds : PySem.Challenge.rw_endshare_k03_whole_the_fewest_free.Holds := by
  w_on; o_law; k_head; (case hw => w_witness2)
  k_fill
  refine L2.walk_of (l := PySem.Challenge.rw_endshare_k03_whole_the_fewest_free) (n := 63) (k := 5) (x := "_law_script") (CX := fun _ => L2.CX0) (sp := fun w => L2.DL.Pr.spLaw _) rfl (by decide) rfl ⟨rfl, by decide, by decide⟩ (fun w h Y => PySem.W.kIn_of Y) ?F (fun _ _ a ns hl _ hS => ⟨a, ns, rfl, hS, hl, fun _ => rfl⟩) (fun _ _ _ _ _ h => h)
  case F =>
    intro w mg fa h KX G hmg
    refine' L2.DL.Pr.all_mk KX G hmg ?a0 ?l0 ?c0 ?k0 ?a1 ?l1 ?c1 ?k1 ?a2 ?l2 ?c2 ?k2 ?a3 ?l3 ?c3 ?k3 ?a4 ?l4 ?c4 ?k4 ?a5 ?l5 ?c5 ?k5 ?a6 ?l6 ?c6 ?k6 ?a7 ?l7 ?c7 ?k7 ?a8 ?l8 ?c8 ?k8 ?a9 ?l9 ?c9 ?k9 ?a10 ?l10 ?c10 ?k10 ?a11 ?l11 ?c11 ?k11 ?a12 ?l12 ?c12 ?k12 ?a13 ?l13 ?c13 ?k13 ?a14 ?l14 ?c14 ?k14 ?a15 ?l15 ?c15 ?k15 ?a16 ?l16 ?c16 ?k16 ?a17 ?l17 ?c17 ?k17 ?a18 ?l18 ?c18 ?k18 ?z_len ?z_range ?z_min ?z_max ?z_zip ?z_enumerate ?z_list ?z_reversed ?z_abs ?z_isinstance ?z_bool ?z_int ?z_str ?z_tuple ?z_all ?z_sorted ?z_sum ?v_MOST_FIELDS ?v_MOST_LETTERS ?v_LETTERS ?v_SIZES ?lSZ ?v_MOST_GAP
    (case a0 => k_is)
    (case l0 => k_is)
    (case c0 => k_is)
    (case k0 => k_is)
    (case a1 => k_is)
    (case l1 => k_is)
    (case c1 => k_is)
    (case k1 => k_is)
    (case a2 => k_is)
    (case l2 => k_is)
    (case c2 => k_is)
    (case k2 => k_is)
    (case a3 => k_is)
    (case l3 => k_is)
    (case c3 => k_is)
    (case k3 => k_is)
    (case a4 => k_is)
    (case l4 => k_is)
    (case c4 => k_is)
    (case k4 => k_is)
    (case a5 => k_is)
    (case l5 => k_is)
    (case c5 => k_is)
    (case k5 => k_is)
    (case a6 => k_is)
    (case l6 => k_is)
    (case c6 => k_is)
    (case k6 => k_is)
    (case a7 => k_is)
    (case l7 => k_is)
    (case c7 => k_is)
    (case k7 => k_is)
    (case a8 => k_is)
    (case l8 => k_is)
    (case c8 => k_is)
    (case k8 => k_is)
    (case a9 => k_is)
    (case l9 => k_is)
    (case c9 => k_is)
    (case k9 => k_is)
    (case a10 => k_is)
    (case l10 => k_is)
    (case c10 => k_is)
    (case k10 => k_is)
    (case a11 => k_is)
    (case l11 => k_is)
    (case c11 => k_is)
    (case k11 => k_is)
    (case a12 => k_is)
    (case l12 => k_is)
    (case c12 => k_is)
    (case k12 => k_is)
    (case a13 => k_is)
    (case l13 => k_is)
    (case c13 => k_is)
    (case k13 => k_is)
    (case a14 => k_is)
    (case l14 => k_is)
    (case c14 => k_is)
    (case k14 => k_is)
    (case a15 => k_is)
    (case l15 => k_is)
    (case c15 => k_is)
    (case k15 => k_is)
    (case a16 => k_is)
    (case l16 => k_is)
    (case c16 => k_is)
    (case k16 => k_is)
    (case a17 => k_is)
    (case l17 => k_is)
    (case c17 => k_is)
    (case k17 => k_is)
    (case a18 => k_is)
    (case l18 => k_is)
    (case c18 => k_is)
    (case k18 => k_is)
    (case z_len => k_is)
    (case z_range => k_is)
    (case z_min => k_is)
    (case z_max => k_is)
    (case z_zip => k_is)
    (case z_enumerate => k_is)
    (case z_list => k_is)
    (case z_reversed => k_is)
    (case z_abs => k_is)
    (case z_isinstance => k_is)
    (case z_bool => k_is)
    (case z_int => k_is)
    (case z_str => k_is)
    (case z_tuple => k_is)
    (case z_all => k_is)
    (case z_sorted => k_is)
    (case z_sum => k_is)
    (case v_MOST_FIELDS => k_is)
    (case v_MOST_LETTERS => k_is)
    (case v_LETTERS => k_is)
    (case v_SIZES => k_is)
    (case lSZ => k_is)
    (case v_MOST_GAP => k_is)

