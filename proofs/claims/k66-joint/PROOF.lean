import PyProof.Rows.All
import Wide.All
import OpenK.AllK
import Wide.FinOn
import HandS.ForExc
import HandS.Iter
import HandS.Slots
import HandS.Wide
import HandS.TupAny
import HandS.Style
import HandS.Comp
import HandS.IsInst
import HandS.Zip
import HandS.TupLe
import HandS.List
import KE.GoesEnum
import HandS.TupMul
import HandS.WideMore
import PySem.Challenge.RW_gridhulls_k66_whole_joint_and_shared_gri
set_option Elab.async false
set_option linter.all false
set_option maxRecDepth 100000
set_option maxHeartbeats 4000000
/-! The D layer, part 1: values as pure data, the slots of a frame, how they lie in an abstract heap. -/
namespace DL
open PySem PySem.Spec PyProof.Rows L2

abbrev D := PyData

theorem sqT_mono {K : PySem.W.Frag} {H H' : Hp} {a : Addr} {xs : List V} (e : Same H H') (h : SqT K H a xs) : SqT K H' a xs := by
  rcases h with (h | ⟨o, h⟩) | h
  · exact .inl (.inl (e _ _ h))
  · exact .inl (.inr ⟨o, e _ _ h⟩)
  · exact .inr h

/-! the data that stands at a value: as the library's Dp, lists tracked or locked -/
/-- a key as data -/
def kD : Key → PyData
  | .inl i => .int i
  | .inr x => .str x
theorem kD_ne (k : Key) : PyData.none ≠ kD k := by cases k <;> (intro h; cases h)
mutual
inductive Dq (K : PySem.W.Frag) (F : Hp) : V → PyData → Prop
  | non : Dq K F .non .none
  | bl (b : Bool) : Dq K F (.bl b) (.bool b)
  | int (i : Int) : Dq K F (.int i) (.int i)
  | str (z : Str) : Dq K F (.str z) (.str z)
  | lst {p : Addr} {vs : List V} {cs : List PyData} : Rd F p (.lst vs) → DqAll K F vs cs → Dq K F (.ref p) (.list cs)
  | tup {p : Addr} {vs : List V} {cs : List PyData} : SqT K F p vs → DqAll K F vs cs → Dq K F (.ref p) (.tuple cs)
  /-- a list that is only read (the script): written here as a dict at the key None -/
  | scr {p : Addr} {vs : List V} {ds : List PyData} : SqL K F p vs → DqAll K F vs ds → Dq K F (.ref p) (.dict [(.none, .list ds)])
  /-- a dict of ints and texts -/
  | dct {p : Addr} {o : Obj} {kvs : List (Key × V)} {ds : List (PyData × PyData)} : F p = some (.frz o (.dK kvs)) → DqKv K F kvs ds → Dq K F (.ref p) (.dict ds)
  /-- an instance with slots, written here as a dict at the key True -/
  | obj {p C dx : Addr} {vs : List V} {ds : List PyData} : F p = some (SlX.SlO p C dx (vs.map Option.some)) → F dx = some (.xd []) → dx ≠ p → DqAll K F vs ds → Dq K F (.ref p) (.dict [(.bool true, .tuple (.int (C : Nat) :: ds))])
inductive DqAll (K : PySem.W.Frag) (F : Hp) : List V → List PyData → Prop
  | nil : DqAll K F [] []
  | cons {v : V} {d : PyData} {vs : List V} {cs : List PyData} : Dq K F v d → DqAll K F vs cs → DqAll K F (v :: vs) (d :: cs)
inductive DqKv (K : PySem.W.Frag) (F : Hp) : List (Key × V) → List (PyData × PyData) → Prop
  | nil : DqKv K F [] []
  | cons {k : Key} {v : V} {kd d : PyData} {vs : List (Key × V)} {cs : List (PyData × PyData)} : kd = kD k → Dq K F v d → DqKv K F vs cs → DqKv K F ((k, v) :: vs) ((kd, d) :: cs)
end
mutual
theorem dq_dp {K : PySem.W.Frag} {F : Hp} : ∀ (d : PyData) (v : V), d.canLay0 = true → Dq K F v d → Dp K F v d
  | .none, v, _, h => by cases h; exact .non
  | .bool b, v, _, h => by cases h; exact .bl b
  | .int i, v, _, h => by cases h; exact .int i
  | .str x, v, _, h => by cases h; exact .str x
  | .list ds, v, c, h => by
    cases h with
    | lst h1 h2 => exact .lst (.inl h1) (dqAll_dp ds _ (by simpa [PyData.canLay0] using c) h2)
  | .tuple ds, v, c, h => by
    cases h with
    | tup h1 h2 => exact .tup h1 (dqAll_dp ds _ (by simpa [PyData.canLay0] using c) h2)
  | .dict _, v, c, h => by simp [PyData.canLay0] at c
theorem dqAll_dp {K : PySem.W.Frag} {F : Hp} : ∀ (ds : List PyData) (vs : List V), PyData.canLayAll0 ds = true → DqAll K F vs ds → DpAll K F vs ds
  | [], vs, _, h => by cases h; exact .nil
  | d :: ds, vs, c, h => by
    have c' : d.canLay0 = true ∧ PyData.canLayAll0 ds = true := by simpa [PyData.canLayAll0] using c
    cases h with
    | cons h1 h2 => exact .cons (dq_dp d _ c'.1 h1) (dqAll_dp ds _ c'.2 h2)
end
theorem rd_mono {H H' : Hp} {a : Addr} {u : HO} (e : Same H H') (h : Rd H a u) : Rd H' a u := by
  rcases h with h | ⟨o, h⟩
  · exact .inl (e _ _ h)
  · exact .inr ⟨o, e _ _ h⟩

mutual
theorem dp_mono {K : PySem.W.Frag} {F F' : Hp} (s : Same F F') : ∀ (d : D) (v : V), Dq K F v d → Dq K F' v d
  | _, _, .non => .non
  | _, _, .bl b => .bl b
  | _, _, .int i => .int i
  | _, _, .str x => .str x
  | _, _, .lst h1 h2 => .lst (rd_mono s h1) (dpAll_mono s _ _ h2)
  | _, _, .tup h1 h2 => .tup (sqT_mono s h1) (dpAll_mono s _ _ h2)
  | _, _, .scr h1 h2 => .scr (s.seq h1) (dpAll_mono s _ _ h2)
  | _, _, .dct h1 h2 => .dct (s _ _ h1) (dpKv_mono s _ _ h2)
  | _, _, .obj h1 h2 h3 h4 => .obj (s _ _ h1) (s _ _ h2) h3 (dpAll_mono s _ _ h4)
theorem dpAll_mono {K : PySem.W.Frag} {F F' : Hp} (s : Same F F') : ∀ (ds : List D) (vs : List V), DqAll K F vs ds → DqAll K F' vs ds
  | _, _, .nil => .nil
  | _, _, .cons h1 h2 => .cons (dp_mono s _ _ h1) (dpAll_mono s _ _ h2)
theorem dpKv_mono {K : PySem.W.Frag} {F F' : Hp} (s : Same F F') : ∀ (ds : List (D × D)) (vs : List (Key × V)), DqKv K F vs ds → DqKv K F' vs ds
  | _, _, .nil => .nil
  | _, _, .cons h0 h1 h2 => .cons h0 (dp_mono s _ _ h1) (dpKv_mono s _ _ h2)
end

section
variable {K : PySem.W.Frag} {F : Hp}
theorem dp_int {v : V} {i : Int} (h : Dq K F v (.int i)) : v = .int i := by cases h; rfl
theorem dp_bool {v : V} {b : Bool} (h : Dq K F v (.bool b)) : v = .bl b := by cases h; rfl
theorem dp_none {v : V} (h : Dq K F v .none) : v = .non := by cases h; rfl
theorem dp_str {v : V} {x : Str} (h : Dq K F v (.str x)) : v = .str x := by cases h; rfl
theorem dp_list {v : V} {ds : List D} (h : Dq K F v (.list ds)) : ∃ a xs, v = .ref a ∧ SqL K F a xs ∧ DqAll K F xs ds := by
  cases h with
  | lst h1 h2 => exact ⟨_, _, rfl, .inl h1, h2⟩
theorem dp_listR {v : V} {ds : List D} (h : Dq K F v (.list ds)) : ∃ a xs, v = .ref a ∧ Rd F a (.lst xs) ∧ DqAll K F xs ds := by
  cases h with
  | lst h1 h2 => exact ⟨_, _, rfl, h1, h2⟩
theorem dp_tup {v : V} {ds : List D} (h : Dq K F v (.tuple ds)) : ∃ a xs, v = .ref a ∧ SqT K F a xs ∧ DqAll K F xs ds := by
  cases h with
  | tup h1 h2 => exact ⟨_, _, rfl, h1, h2⟩
theorem dp_scr {v : V} {ds : List D} (h : Dq K F v (.dict [(.none, .list ds)])) : ∃ a xs, v = .ref a ∧ SqL K F a xs ∧ DqAll K F xs ds := by
  generalize e : (PyData.dict [(PyData.none, PyData.list ds)]) = d at h
  cases h with
  | scr h1 h2 => cases e; exact ⟨_, _, rfl, h1, h2⟩
  | dct h1 h2 =>
    cases e
    cases h2 with
    | cons h0 _ _ => exact absurd h0 (kD_ne _)
  | _ => cases e

theorem dpAll_len : ∀ {xs : List V} {ds : List D}, DqAll K F xs ds → xs.length = ds.length
  | [], [], _ => rfl
  | _ :: _, _ :: _, .cons _ h => congrArg (· + 1) (dpAll_len h)
  | [], _ :: _, h => nomatch h
  | _ :: _, [], h => nomatch h
theorem dpAll_get : ∀ {xs : List V} {ds : List D} {i : Nat} {x : V}, DqAll K F xs ds → xs[i]? = some x → ∃ d, ds[i]? = some d ∧ Dq K F x d
  | _ :: _, _ :: _, 0, _, .cons h _, e => by cases e; exact ⟨_, rfl, h⟩
  | _ :: _, _ :: _, i + 1, _, .cons _ h, e => dpAll_get (i := i) h e
  | [], [], _, _, .nil, e => by simp at e
theorem dpAll_got : ∀ {xs : List V} {ds : List D} {i : Nat} {d : D}, DqAll K F xs ds → ds[i]? = some d → ∃ x, xs[i]? = some x ∧ Dq K F x d
  | _ :: _, _ :: _, 0, _, .cons h _, e => by cases e; exact ⟨_, rfl, h⟩
  | _ :: _, _ :: _, i + 1, _, .cons _ h, e => dpAll_got (i := i) h e
  | [], [], _, _, .nil, e => by simp at e
theorem dpAll_app : ∀ {xs ys : List V} {ds es : List D}, DqAll K F xs ds → DqAll K F ys es → DqAll K F (xs ++ ys) (ds ++ es)
  | _, _, _, _, .nil, h => h
  | _, _, _, _, .cons h t, h' => .cons h (dpAll_app t h')
theorem dpAll_take : ∀ {xs : List V} {ds : List D} (n : Nat), DqAll K F xs ds → DqAll K F (xs.take n) (ds.take n)
  | _, _, 0, h => by rw [List.take_zero, List.take_zero]; exact .nil
  | _, _, n + 1, .nil => .nil
  | _, _, n + 1, .cons h t => .cons h (dpAll_take n t)
theorem dpAll_drop : ∀ {xs : List V} {ds : List D} (n : Nat), DqAll K F xs ds → DqAll K F (xs.drop n) (ds.drop n)
  | _, _, 0, h => h
  | _, _, n + 1, .nil => .nil
  | _, _, n + 1, .cons h t => dpAll_drop n t
theorem dpAll_set : ∀ {xs : List V} {ds : List D} {x : V} {d : D} (n : Nat), Dq K F x d → DqAll K F xs ds → DqAll K F (xs.set n x) (ds.set n d)
  | _, _, _, _, _, _, .nil => .nil
  | _, _, _, _, 0, h', .cons h t => .cons h' t
  | _, _, _, _, n + 1, h', .cons h t => .cons h (dpAll_set n h' t)
theorem dpAll_rev : ∀ {xs : List V} {ds : List D}, DqAll K F xs ds → DqAll K F xs.reverse ds.reverse
  | _, _, .nil => .nil
  | _, _, .cons h t => by
    rw [List.reverse_cons, List.reverse_cons]
    exact dpAll_app (dpAll_rev t) (.cons h .nil)
theorem dpAll_rep {xs : List V} {ds : List D} (h : DqAll K F xs ds) : ∀ k : Nat, DqAll K F (List.replicate k xs).flatten (List.replicate k ds).flatten
  | 0 => .nil
  | k + 1 => by
    rw [List.replicate_succ, List.replicate_succ, List.flatten_cons, List.flatten_cons]
    exact dpAll_app h (dpAll_rep h k)
theorem dpAll_dropLast {xs : List V} {ds : List D} (h : DqAll K F xs ds) : DqAll K F xs.dropLast ds.dropLast := by
  rw [List.dropLast_eq_take, List.dropLast_eq_take, dpAll_len h]
  exact dpAll_take _ h
theorem dpAll_cut {xs : List V} {ds : List D} (h : DqAll K F xs ds) (lo hi : Option Int) :
    DqAll K F (cutV xs lo hi) ((ds.drop (HT.sIx ds.length 0 lo)).take (HT.sIx ds.length ds.length hi - HT.sIx ds.length 0 lo)) := by
  unfold cutV
  rw [dpAll_len h]
  exact dpAll_take _ (dpAll_drop _ h)
theorem dpAll_ints : ∀ ns : List Int, DqAll K F (ns.map V.int) (ns.map PyData.int)
  | [] => .nil
  | n :: ns => .cons (.int n) (dpAll_ints ns)
theorem dpAll_of_ints : ∀ {xs : List V} (ns : List Int), DqAll K F xs (ns.map PyData.int) → xs = ns.map V.int
  | _, [], h => by cases h; rfl
  | _, n :: ns, h => by
    cases h with
    | cons h1 h2 => rw [dp_int h1, dpAll_of_ints ns h2]; rfl
theorem dpAll_of_bools : ∀ {xs : List V} (ns : List Bool), DqAll K F xs (ns.map PyData.bool) → xs = ns.map V.bl
  | _, [], h => by cases h; rfl
  | _, n :: ns, h => by
    cases h with
    | cons h1 h2 => rw [dp_bool h1, dpAll_of_bools ns h2]; rfl
end

/-! ### slots -/
/-- what stands in a place of one's own -/
inductive Ow where
  | lst (ds : List D)
  | dct (kvs : List (Key × D))
  | dtu (kvs : List (List Key × D))
  | dctZ (kvs : List (Key × D))
  | set (S : Int → Bool) (n : Nat)
  | obj (C : Addr) (fs : List (Option D))
/-- the fields of an instance -/
inductive OptR (K : PySem.W.Frag) (F : Hp) : List (Option V) → List (Option D) → Prop
  | nil : OptR K F [] []
  | none {vs : List (Option V)} {ds : List (Option D)} : OptR K F vs ds → OptR K F (Option.none :: vs) (Option.none :: ds)
  | some {v : V} {d : D} {vs : List (Option V)} {ds : List (Option D)} : Dq K F v d → OptR K F vs ds → OptR K F (Option.some v :: vs) (Option.some d :: ds)
theorem OptR.mono {K : PySem.W.Frag} {F F' : Hp} (s : Same F F') : ∀ {vs : List (Option V)} {ds : List (Option D)}, OptR K F vs ds → OptR K F' vs ds
  | _, _, .nil => .nil
  | _, _, .none t => .none (t.mono s)
  | _, _, .some h t => .some (dp_mono s _ _ h) (t.mono s)
inductive KvR {κ : Type} (K : PySem.W.Frag) (F : Hp) : List (κ × V) → List (κ × D) → Prop
  | nil : KvR K F [] []
  | cons {k : κ} {v : V} {d : D} {vs : List (κ × V)} {ds : List (κ × D)} : Dq K F v d → KvR K F vs ds → KvR K F ((k, v) :: vs) ((k, d) :: ds)
theorem KvR.mono {κ : Type} {K : PySem.W.Frag} {F F' : Hp} (s : Same F F') : ∀ {vs : List (κ × V)} {ds : List (κ × D)}, KvR K F vs ds → KvR K F' vs ds
  | _, _, .nil => .nil
  | _, _, .cons h t => .cons (dp_mono s _ _ h) (t.mono s)
inductive OwR (K : PySem.W.Frag) (F : Hp) (p : Addr) : HO → Ow → Prop
  | lst {xs : List V} {ds : List D} : DqAll K F xs ds → OwR K F p (.lst xs) (.lst ds)
  | dct {xs : List (Key × V)} {ds : List (Key × D)} : KvR K F xs ds → OwR K F p (.dK xs) (.dct ds)
  | dtu {xs : List (List Key × V)} {ds : List (List Key × D)} : KvR K F xs ds → OwR K F p (.dT xs) (.dtu ds)
  | dctZ {o : Obj} {xs : List (Key × V)} {ds : List (Key × D)} : KvR K F xs ds → OwR K F p (.frz o (.dK xs)) (.dctZ ds)
  | set {S : Int → Bool} {n : Nat} : OwR K F p (.set S n) (.set S n)
  | obj {C dx : Addr} {vs : List (Option V)} {fs : List (Option D)} {ho : HO} : F dx = some (.xd []) → dx ≠ p → ho = SlX.SlO p C dx vs → OptR K F vs fs → OwR K F p ho (.obj C fs)
theorem ow_mono {K : PySem.W.Frag} {F F' : Hp} {p : Addr} (s : Same F F') {ho : HO} {o : Ow} (h : OwR K F p ho o) : OwR K F' p ho o := by
  cases h with
  | lst h => exact .lst (dpAll_mono s _ _ h)
  | dct h => exact .dct (h.mono s)
  | dtu h => exact .dtu (h.mono s)
  | dctZ h => exact .dctZ (h.mono s)
  | set => exact .set
  | obj h1 h2 h3 h4 => exact .obj (s _ _ h1) h2 h3 (h4.mono s)
theorem owr_dct {K : PySem.W.Frag} {F : Hp} {p : Addr} {ho : HO} {ds : List (Key × D)} (h : OwR K F p ho (.dct ds)) : ∃ xs, ho = .dK xs ∧ KvR K F xs ds := by
  cases h with
  | dct h => exact ⟨_, rfl, h⟩
theorem owr_lst {K : PySem.W.Frag} {F : Hp} {p : Addr} {ho : HO} {ds : List D} (h : OwR K F p ho (.lst ds)) : ∃ xs, ho = .lst xs ∧ DqAll K F xs ds := by
  cases h with
  | lst h => exact ⟨_, rfl, h⟩
/-- what a slot holds: nothing that is known; data; a list of its own; the list that the caller lent -/
inductive Sl where
  | un
  | im (d : D)
  | mu (o : Ow)
  | bo (o : Ow)
abbrev Env := List Sl

/-- the world of a body: the known data and the heap at its entry, what it may change, the lent list's place -/
structure Wd where
  F0 : Hp
  H0 : Hp
  own : Addr → Prop
  ba : Addr
  hb : Prop

structure Rel (K : PySem.W.Frag) (w : Wd) (F : Hp) (ad : Nat → Addr) (σ : L2.St) (H : Hp) (e : Env) : Prop where
  sub : Same F H
  old : Same w.F0 F
  dom : ∀ b o, w.H0 b = some o → ∃ o', H b = some o'
  fr : ∀ b o, w.H0 b = some o → w.F0 b = none → ¬ w.own b → H b = some o ∧ F b = none
  len : σ.length = e.length
  im : ∀ (i : Nat) (d : D), e[i]? = some (.im d) → ∃ v, σ[i]? = some (some v) ∧ Dq K F v d
  mu : ∀ (i : Nat) (ds : Ow), e[i]? = some (.mu ds) → ∃ xs, σ[i]? = some (some (.ref (ad i))) ∧ H (ad i) = some xs ∧ F (ad i) = none ∧ OwR K F (ad i) xs ds ∧ (w.H0 (ad i) = none ∨ w.own (ad i))
  bo : ∀ (i : Nat) (ds : Ow), e[i]? = some (.bo ds) → w.hb ∧ ∃ xs, σ[i]? = some (some (.ref w.ba)) ∧ H w.ba = some xs ∧ F w.ba = none ∧ OwR K F w.ba xs ds
  hbo : w.hb → w.own w.ba ∧ ∃ o, w.H0 w.ba = some o
  inj : ∀ (i j : Nat) (ds ds' : Ow), e[i]? = some (.mu ds) → e[j]? = some (.mu ds') → ad i = ad j → i = j
  nbo : ∀ (i : Nat) (ds : Ow), e[i]? = some (.mu ds) → w.hb → ad i ≠ w.ba
  ubo : ∀ (i j : Nat) (ds ds' : Ow), e[i]? = some (.bo ds) → e[j]? = some (.bo ds') → i = j

theorem same_upd {F H : Hp} {p : Addr} {o : HO} (s : Same F H) (h : H p = none) : Same F (upd F p o) := fun b u q => by
  by_cases e : b = p
  · subst e
    rw [s b u q] at h
    cases h
  · rw [upd_ne e]; exact q
theorem same_upd2 {F H : Hp} {p : Addr} {o : HO} (s : Same F H) : Same (upd F p o) (upd H p o) := fun b u q => by
  by_cases e : b = p
  · subst e
    rw [upd_same] at q ⊢
    exact q
  · rw [upd_ne e] at q ⊢
    exact s b u q

section
variable {K : PySem.W.Frag} {w : Wd} {F : Hp} {ad : Nat → Addr} {σ : L2.St} {H : Hp} {e : Env}

/-- a new thing that never changes is laid -/
theorem Rel.grow {p : Addr} {o : HO} (r : Rel K w F ad σ H e) (h : H p = none) : Rel K w (upd F p o) ad σ (upd H p o) e := by
  have hF : Same F (upd F p o) := same_upd r.sub h
  have hn : ∀ b u, H b = some u → b ≠ p := fun b u q z => by subst z; rw [h] at q; cases q
  have up : ∀ b u, H b = some u → (upd H p o) b = some u := fun b u q => by rw [upd_ne (hn b u q)]; exact q
  have dn : ∀ b, b ≠ p → F b = none → (upd F p o) b = none := fun b z q => by rw [upd_ne z]; exact q
  exact {
    sub := same_upd2 r.sub
    old := r.old.trans hF
    dom := fun b u q => by obtain ⟨u', q'⟩ := r.dom b u q; exact ⟨u', up b u' q'⟩
    fr := fun b u q1 q2 q3 => by
      obtain ⟨a1, a2⟩ := r.fr b u q1 q2 q3
      exact ⟨up b u a1, dn b (hn b u a1) a2⟩
    len := r.len
    im := fun i d q => by obtain ⟨v, a1, a2⟩ := r.im i d q; exact ⟨v, a1, dp_mono hF _ _ a2⟩
    mu := fun i ds q => by
      obtain ⟨xs, a1, a2, a3, a4, a5⟩ := r.mu i ds q
      exact ⟨xs, a1, up _ _ a2, dn _ (hn _ _ a2) a3, ow_mono hF a4, a5⟩
    bo := fun i ds q => by
      obtain ⟨a0, xs, a1, a2, a3, a4⟩ := r.bo i ds q
      exact ⟨a0, xs, a1, up _ _ a2, dn _ (hn _ _ a2) a3, ow_mono hF a4⟩
    hbo := r.hbo
    inj := r.inj
    nbo := r.nbo
    ubo := r.ubo }

/-- a slot's own list becomes data -/
theorem Rel.freezeG {i : Nat} {ds : Ow} {xs : HO} {dd : D} (r : Rel K w F ad σ H e) (hi : e[i]? = some (.mu ds)) (hH : H (ad i) = some xs) (up : ∀ F' : Hp, F' (ad i) = some xs → OwR K F' (ad i) xs ds → Dq K F' (.ref (ad i)) dd) :
    Rel K w (upd F (ad i) xs) ad σ H (e.set i (.im dd)) ∧ Same F (upd F (ad i) xs) ∧ Dq K (upd F (ad i) xs) (.ref (ad i)) dd ∧ σ[i]? = some (some (.ref (ad i))) := by
  obtain ⟨xs', a1, a2, a3, a4, a5⟩ := r.mu i ds hi
  obtain rfl : xs = xs' := by rw [hH] at a2; cases a2; rfl
  have hF : Same F (upd F (ad i) xs) := fun b u q => by
    by_cases z : b = ad i
    · subst z; rw [a3] at q; cases q
    · rw [upd_ne z]; exact q
  have hd : Dq K (upd F (ad i) xs) (.ref (ad i)) dd := up _ upd_same (ow_mono hF a4)
  have dn : ∀ b, b ≠ ad i → F b = none → (upd F (ad i) xs) b = none := fun b z q => by rw [upd_ne z]; exact q
  have hlt : i < e.length := (List.getElem?_eq_some_iff.mp hi).1
  have st : ∀ (j : Nat) (s : Sl), (e.set i (.im dd))[j]? = some s → (j = i ∧ s = .im dd) ∨ (j ≠ i ∧ e[j]? = some s) := fun j s q => by
    rw [List.getElem?_set] at q
    by_cases z : i = j
    · subst z
      rw [if_pos rfl, if_pos hlt] at q
      exact .inl ⟨rfl, (Option.some.inj q).symm⟩
    · rw [if_neg z] at q
      exact .inr ⟨fun z' => z z'.symm, q⟩
  refine ⟨?_, hF, hd, a1⟩
  exact {
    sub := fun b u q => by
      by_cases z : b = ad i
      · subst z; rw [upd_same] at q; cases q; exact hH
      · rw [upd_ne z] at q; exact r.sub b u q
    old := r.old.trans hF
    dom := r.dom
    fr := fun b u q1 q2 q3 => by
      obtain ⟨b1, b2⟩ := r.fr b u q1 q2 q3
      refine ⟨b1, dn b (fun z => ?_) b2⟩
      subst z
      rcases a5 with a5 | a5
      · rw [a5] at q1; cases q1
      · exact q3 a5
    len := by rw [List.length_set]; exact r.len
    im := fun j d q => by
      rcases st j _ q with ⟨rfl, q2⟩ | ⟨z, q⟩
      · cases q2; exact ⟨_, a1, hd⟩
      · obtain ⟨v, b1, b2⟩ := r.im j d q
        exact ⟨v, b1, dp_mono hF _ _ b2⟩
    mu := fun j es q => by
      rcases st j _ q with ⟨_, q⟩ | ⟨z, q⟩
      · cases q
      · obtain ⟨ys, b1, b2, b3, b4, b5⟩ := r.mu j es q
        exact ⟨ys, b1, b2, dn _ (fun z' => z (r.inj _ _ _ _ q hi z')) b3, ow_mono hF b4, b5⟩
    bo := fun j es q => by
      rcases st j _ q with ⟨_, q⟩ | ⟨z, q⟩
      · cases q
      · obtain ⟨b0, ys, b1, b2, b3, b4⟩ := r.bo j es q
        exact ⟨b0, ys, b1, b2, dn _ (fun z' => r.nbo i ds hi b0 z'.symm) b3, ow_mono hF b4⟩
    hbo := r.hbo
    inj := fun j k es es' q q' => by
      rcases st j _ q with ⟨_, q⟩ | ⟨_, q⟩
      · cases q
      · rcases st k _ q' with ⟨_, q'⟩ | ⟨_, q'⟩
        · cases q'
        · exact r.inj j k es es' q q'
    nbo := fun j es q => by
      rcases st j _ q with ⟨_, q⟩ | ⟨_, q⟩
      · cases q
      · exact r.nbo j es q
    ubo := fun j k es es' q q' => by
      rcases st j _ q with ⟨_, q⟩ | ⟨_, q⟩
      · cases q
      · rcases st k _ q' with ⟨_, q'⟩ | ⟨_, q'⟩
        · cases q'
        · exact r.ubo j k es es' q q' }

theorem Rel.freeze {i : Nat} {ds : List D} {xs : List V} (r : Rel K w F ad σ H e) (hi : e[i]? = some (.mu (.lst ds))) (hH : H (ad i) = some (.lst xs)) :
    Rel K w (upd F (ad i) (.lst xs)) ad σ H (e.set i (.im (.list ds))) ∧ Same F (upd F (ad i) (.lst xs)) ∧ Dq K (upd F (ad i) (.lst xs)) (.ref (ad i)) (.list ds) ∧ σ[i]? = some (some (.ref (ad i))) :=
  r.freezeG hi hH fun F' h1 h2 => by
    cases h2 with
    | lst h => exact .lst (Rd.of h1) h

/-- what a frame may change -/
def ownE (e : Env) (ad : Nat → Addr) (w : Wd) : Addr → Prop := fun b => (∃ (i : Nat) (ds : Ow), e[i]? = some (.mu ds) ∧ ad i = b) ∨ (w.hb ∧ b = w.ba)
/-- the world as seen from here -/
def here (w : Wd) (F : Hp) (ad : Nat → Addr) (H : Hp) (e : Env) : Wd := { F0 := F, H0 := H, own := ownE e ad w, ba := w.ba, hb := w.hb }
theorem Rel.rebase (r : Rel K w F ad σ H e) : Rel K (here w F ad H e) F ad σ H e where
  sub := r.sub
  old := Same.refl F
  dom := fun b o q => ⟨o, q⟩
  fr := fun b o q1 q2 _ => ⟨q1, q2⟩
  len := r.len
  im := r.im
  mu := fun i ds q => by
    obtain ⟨xs, a1, a2, a3, a4, _⟩ := r.mu i ds q
    exact ⟨xs, a1, a2, a3, a4, .inr (.inl ⟨i, ds, q, rfl⟩)⟩
  bo := r.bo
  hbo := fun h => by
    obtain ⟨_, o, q⟩ := r.hbo h
    exact ⟨.inr ⟨h, rfl⟩, r.dom _ _ q⟩
  inj := r.inj
  nbo := r.nbo
  ubo := r.ubo
theorem Rel.back {F' : Hp} {ad' : Nat → Addr} {σ' : L2.St} {H' : Hp} {e' : Env} (r : Rel K w F ad σ H e) (q : Rel K (here w F ad H e) F' ad' σ' H' e') : Rel K w F' ad' σ' H' e' where
  sub := q.sub
  old := r.old.trans q.old
  dom := fun b o z => by obtain ⟨o', z'⟩ := r.dom b o z; exact q.dom b o' z'
  fr := fun b o z1 z2 z3 => by
    obtain ⟨y1, y2⟩ := r.fr b o z1 z2 z3
    refine q.fr b o y1 y2 fun z => ?_
    rcases z with ⟨i, ds, h1, h2⟩ | ⟨h1, h2⟩
    · subst h2
      obtain ⟨_, _, _, _, _, h⟩ := r.mu i ds h1
      rcases h with h | h
      · rw [h] at z1; cases z1
      · exact z3 h
    · subst h2; exact z3 (r.hbo h1).1
  len := q.len
  im := q.im
  mu := fun i ds z => by
    obtain ⟨xs, a1, a2, a3, a4, a5⟩ := q.mu i ds z
    refine ⟨xs, a1, a2, a3, a4, ?_⟩
    rcases a5 with a5 | a5
    · left
      cases h : w.H0 (ad' i) with
      | none => rfl
      | some o =>
        obtain ⟨o', h'⟩ := r.dom _ _ h
        have a5' : H (ad' i) = none := a5
        rw [h'] at a5'; cases a5'
    · rcases a5 with ⟨j, es, h1, h2⟩ | ⟨h1, h2⟩
      · obtain ⟨_, _, _, _, _, h⟩ := r.mu j es h1
        rw [h2] at h
        exact h
      · right; rw [h2]; exact (r.hbo h1).1
  bo := q.bo
  hbo := r.hbo
  inj := q.inj
  nbo := q.nbo
  ubo := q.ubo
/-- .. from a world with more known data -/
theorem Rel.known (r : Rel K w F ad σ H e) : Rel K { w with F0 := F } F ad σ H e where
  sub := r.sub
  old := Same.refl F
  dom := r.dom
  fr := fun b o q1 q2 q3 => r.fr b o q1 (by
    cases h : w.F0 b with
    | none => rfl
    | some u => have q2' : F b = none := q2
                rw [r.old b u h] at q2'; cases q2') q3
  len := r.len
  im := r.im
  mu := r.mu
  bo := r.bo
  hbo := r.hbo
  inj := r.inj
  nbo := r.nbo
  ubo := r.ubo
theorem Rel.unknown {F' : Hp} {ad' : Nat → Addr} {σ' : L2.St} {H' : Hp} {e' : Env} (r : Rel K w F ad σ H e) (q : Rel K { w with F0 := F } F' ad' σ' H' e') : Rel K w F' ad' σ' H' e' where
  sub := q.sub
  old := r.old.trans q.old
  dom := q.dom
  fr := fun b o z1 z2 z3 => q.fr b o z1 (r.fr b o z1 z2 z3).2 z3
  len := q.len
  im := q.im
  mu := q.mu
  bo := q.bo
  hbo := q.hbo
  inj := q.inj
  nbo := q.nbo
  ubo := q.ubo

/-- a slot is given a value -/
theorem Rel.set {i : Nat} {v : V} {d : D} (r : Rel K w F ad σ H e) (hd : Dq K F v d) : Rel K w F ad (σ.set i (some v)) H (e.set i (.im d)) := by
  have st : ∀ (j : Nat) (s : Sl), (e.set i (.im d))[j]? = some s → (j = i ∧ j < e.length ∧ s = .im d) ∨ (j ≠ i ∧ e[j]? = some s) := fun j s q => by
    rw [List.getElem?_set] at q
    by_cases z : i = j
    · subst z
      rw [if_pos rfl] at q
      by_cases l : i < e.length
      · rw [if_pos l] at q; exact .inl ⟨rfl, l, (Option.some.inj q).symm⟩
      · rw [if_neg l] at q; cases q
    · rw [if_neg z] at q
      exact .inr ⟨fun z' => z z'.symm, q⟩
  have sσ : ∀ j, j ≠ i → (σ.set i (some v))[j]? = σ[j]? := fun j z => by rw [List.getElem?_set, if_neg (fun z' => z z'.symm)]
  exact {
    sub := r.sub
    old := r.old
    dom := r.dom
    fr := r.fr
    len := by rw [List.length_set, List.length_set]; exact r.len
    im := fun j d' q => by
      rcases st j _ q with ⟨rfl, l, q2⟩ | ⟨z, q⟩
      · cases q2
        refine ⟨v, ?_, hd⟩
        rw [List.getElem?_set, if_pos rfl, if_pos (by rw [r.len]; exact l)]
      · obtain ⟨x, b1, b2⟩ := r.im j d' q
        exact ⟨x, (sσ j z).trans b1, b2⟩
    mu := fun j es q => by
      rcases st j _ q with ⟨_, _, q⟩ | ⟨z, q⟩
      · cases q
      · obtain ⟨ys, b1, b2⟩ := r.mu j es q
        exact ⟨ys, (sσ j z).trans b1, b2⟩
    bo := fun j es q => by
      rcases st j _ q with ⟨_, _, q⟩ | ⟨z, q⟩
      · cases q
      · obtain ⟨b0, ys, b1, b2⟩ := r.bo j es q
        exact ⟨b0, ys, (sσ j z).trans b1, b2⟩
    hbo := r.hbo
    inj := fun j k es es' q q' => by
      rcases st j _ q with ⟨_, _, q⟩ | ⟨_, q⟩
      · cases q
      · rcases st k _ q' with ⟨_, _, q'⟩ | ⟨_, q'⟩
        · cases q'
        · exact r.inj j k es es' q q'
    nbo := fun j es q => by
      rcases st j _ q with ⟨_, _, q⟩ | ⟨_, q⟩
      · cases q
      · exact r.nbo j es q
    ubo := fun j k es es' q q' => by
      rcases st j _ q with ⟨_, _, q⟩ | ⟨_, q⟩
      · cases q
      · rcases st k _ q' with ⟨_, _, q'⟩ | ⟨_, q'⟩
        · cases q'
        · exact r.ubo j k es es' q q' }

/-- a list at a that nobody else here holds -/
structure Fresh (w : Wd) (F : Hp) (ad : Nat → Addr) (e : Env) (a : Addr) : Prop where
  fF : F a = none
  f0 : w.H0 a = none
  fm : ∀ (i : Nat) (ds : Ow), e[i]? = some (.mu ds) → ad i ≠ a
  fb : w.hb → a ≠ w.ba

/-- a slot is given a list of its own -/
theorem Rel.setMu {i : Nat} {a : Addr} {xs : HO} {ds : Ow} (r : Rel K w F ad σ H e) (hH : H a = some xs) (f : Fresh w F ad e a) (hd : OwR K F a xs ds) :
    Rel K w F (fun j => if j = i then a else ad j) (σ.set i (some (.ref a))) H (e.set i (.mu ds)) := by
  have st : ∀ (j : Nat) (s : Sl), (e.set i (.mu ds))[j]? = some s → (j = i ∧ j < e.length ∧ s = .mu ds) ∨ (j ≠ i ∧ e[j]? = some s) := fun j s q => by
    rw [List.getElem?_set] at q
    by_cases z : i = j
    · subst z
      rw [if_pos rfl] at q
      by_cases l : i < e.length
      · rw [if_pos l] at q; exact .inl ⟨rfl, l, (Option.some.inj q).symm⟩
      · rw [if_neg l] at q; cases q
    · rw [if_neg z] at q
      exact .inr ⟨fun z' => z z'.symm, q⟩
  have sσ : ∀ j, j ≠ i → (σ.set i (some (.ref a)))[j]? = σ[j]? := fun j z => by rw [List.getElem?_set, if_neg (fun z' => z z'.symm)]
  exact {
    sub := r.sub
    old := r.old
    dom := r.dom
    fr := r.fr
    len := by rw [List.length_set, List.length_set]; exact r.len
    im := fun j d' q => by
      rcases st j _ q with ⟨_, _, q⟩ | ⟨z, q⟩
      · cases q
      · obtain ⟨x, b1, b2⟩ := r.im j d' q
        exact ⟨x, (sσ j z).trans b1, b2⟩
    mu := fun j es q => by
      rcases st j _ q with ⟨rfl, l, q2⟩ | ⟨z, q⟩
      · cases q2
        refine ⟨xs, ?_⟩
        rw [if_pos rfl]
        refine ⟨?_, hH, f.fF, hd, .inl f.f0⟩
        rw [List.getElem?_set, if_pos rfl, if_pos (by rw [r.len]; exact l)]
      · obtain ⟨ys, b1, b2⟩ := r.mu j es q
        rw [if_neg z]
        exact ⟨ys, (sσ j z).trans b1, b2⟩
    bo := fun j es q => by
      rcases st j _ q with ⟨_, _, q⟩ | ⟨z, q⟩
      · cases q
      · obtain ⟨b0, ys, b1, b2⟩ := r.bo j es q
        exact ⟨b0, ys, (sσ j z).trans b1, b2⟩
    hbo := r.hbo
    inj := fun j k es es' q q' z => by
      rcases st j _ q with ⟨ej, _, _⟩ | ⟨zj, q2⟩
      · rcases st k _ q' with ⟨ek, _, _⟩ | ⟨zk, q2'⟩
        · rw [ej, ek]
        · rw [if_pos ej, if_neg zk] at z
          exact absurd z.symm (f.fm k es' q2')
      · rcases st k _ q' with ⟨ek, _, _⟩ | ⟨zk, q2'⟩
        · rw [if_pos ek, if_neg zj] at z
          exact absurd z (f.fm j es q2)
        · rw [if_neg zj, if_neg zk] at z
          exact r.inj j k es es' q2 q2' z
    nbo := fun j es q hb => by
      rcases st j _ q with ⟨rfl, _, q⟩ | ⟨z, q⟩
      · rw [if_pos rfl]; exact f.fb hb
      · rw [if_neg z]; exact r.nbo j es q hb
    ubo := fun j k es es' q q' => by
      rcases st j _ q with ⟨_, _, q⟩ | ⟨_, q⟩
      · cases q
      · rcases st k _ q' with ⟨_, _, q'⟩ | ⟨_, q'⟩
        · cases q'
        · exact r.ubo j k es es' q q' }

/-- a slot's own list is changed in place -/
theorem Rel.mutate {i : Nat} {ds ds' : Ow} {ys : HO} (r : Rel K w F ad σ H e) (hi : e[i]? = some (.mu ds)) (hd : OwR K F (ad i) ys ds') :
    Rel K w F ad σ (upd H (ad i) ys) (e.set i (.mu ds')) := by
  obtain ⟨xs, a1, a2, a3, a4, a5⟩ := r.mu i ds hi
  have hlt : i < e.length := (List.getElem?_eq_some_iff.mp hi).1
  have st : ∀ (j : Nat) (s : Sl), (e.set i (.mu ds'))[j]? = some s → (j = i ∧ s = .mu ds') ∨ (j ≠ i ∧ e[j]? = some s) := fun j s q => by
    rw [List.getElem?_set] at q
    by_cases z : i = j
    · subst z
      rw [if_pos rfl, if_pos hlt] at q
      exact .inl ⟨rfl, (Option.some.inj q).symm⟩
    · rw [if_neg z] at q
      exact .inr ⟨fun z' => z z'.symm, q⟩
  have old : ∀ (j : Nat) es, (e.set i (.mu ds'))[j]? = some (.mu es) → ∃ es', e[j]? = some (.mu es') := fun j es q => by
    rcases st j _ q with ⟨rfl, _⟩ | ⟨_, q⟩
    · exact ⟨ds, hi⟩
    · exact ⟨es, q⟩
  exact {
    sub := fun b u q => by
      rw [upd_ne (fun z => by subst z; rw [a3] at q; cases q)]
      exact r.sub b u q
    old := r.old
    dom := fun b u q => by
      obtain ⟨u', q'⟩ := r.dom b u q
      by_cases z : b = ad i
      · subst z; exact ⟨_, upd_same⟩
      · exact ⟨u', by rw [upd_ne z]; exact q'⟩
    fr := fun b u q1 q2 q3 => by
      obtain ⟨b1, b2⟩ := r.fr b u q1 q2 q3
      refine ⟨?_, b2⟩
      rw [upd_ne (fun z => ?_)]
      · exact b1
      · subst z
        rcases a5 with a5 | a5
        · rw [a5] at q1; cases q1
        · exact q3 a5
    len := by rw [List.length_set]; exact r.len
    im := fun j d q => by
      rcases st j _ q with ⟨_, q⟩ | ⟨z, q⟩
      · cases q
      · exact r.im j d q
    mu := fun j es q => by
      rcases st j _ q with ⟨rfl, q2⟩ | ⟨z, q⟩
      · cases q2; exact ⟨ys, a1, upd_same, a3, hd, a5⟩
      · obtain ⟨zs, b1, b2, b3, b4, b5⟩ := r.mu j es q
        exact ⟨zs, b1, by rw [upd_ne (fun z' => z (r.inj _ _ _ _ q hi z'))]; exact b2, b3, b4, b5⟩
    bo := fun j es q => by
      rcases st j _ q with ⟨_, q⟩ | ⟨z, q⟩
      · cases q
      · obtain ⟨b0, zs, b1, b2, b3, b4⟩ := r.bo j es q
        exact ⟨b0, zs, b1, by rw [upd_ne (fun z' => r.nbo i ds hi b0 z'.symm)]; exact b2, b3, b4⟩
    hbo := r.hbo
    inj := fun j k es es' q q' => by
      obtain ⟨es1, q⟩ := old j es q
      obtain ⟨es2, q'⟩ := old k es' q'
      exact r.inj j k _ _ q q'
    nbo := fun j es q => by
      obtain ⟨es1, q⟩ := old j es q
      exact r.nbo j _ q
    ubo := fun j k es es' q q' => by
      rcases st j _ q with ⟨_, q⟩ | ⟨_, q⟩
      · cases q
      · rcases st k _ q' with ⟨_, q'⟩ | ⟨_, q'⟩
        · cases q'
        · exact r.ubo j k es es' q q' }
/-- the lent list is changed in place -/
theorem Rel.mutateBo {i : Nat} {ds ds' : Ow} {ys : HO} (r : Rel K w F ad σ H e) (hi : e[i]? = some (.bo ds)) (hd : OwR K F w.ba ys ds') :
    Rel K w F ad σ (upd H w.ba ys) (e.set i (.bo ds')) := by
  obtain ⟨a0, xs, a1, a2, a3, a4⟩ := r.bo i ds hi
  have hlt : i < e.length := (List.getElem?_eq_some_iff.mp hi).1
  have st : ∀ (j : Nat) (s : Sl), (e.set i (.bo ds'))[j]? = some s → (j = i ∧ s = .bo ds') ∨ (j ≠ i ∧ e[j]? = some s) := fun j s q => by
    rw [List.getElem?_set] at q
    by_cases z : i = j
    · subst z
      rw [if_pos rfl, if_pos hlt] at q
      exact .inl ⟨rfl, (Option.some.inj q).symm⟩
    · rw [if_neg z] at q
      exact .inr ⟨fun z' => z z'.symm, q⟩
  exact {
    sub := fun b u q => by
      rw [upd_ne (fun z => by subst z; rw [a3] at q; cases q)]
      exact r.sub b u q
    old := r.old
    dom := fun b u q => by
      obtain ⟨u', q'⟩ := r.dom b u q
      by_cases z : b = w.ba
      · subst z; exact ⟨_, upd_same⟩
      · exact ⟨u', by rw [upd_ne z]; exact q'⟩
    fr := fun b u q1 q2 q3 => by
      obtain ⟨b1, b2⟩ := r.fr b u q1 q2 q3
      refine ⟨?_, b2⟩
      rw [upd_ne (fun z => ?_)]
      · exact b1
      · subst z; exact q3 (r.hbo a0).1
    len := by rw [List.length_set]; exact r.len
    im := fun j d q => by
      rcases st j _ q with ⟨_, q⟩ | ⟨z, q⟩
      · cases q
      · exact r.im j d q
    mu := fun j es q => by
      rcases st j _ q with ⟨_, q⟩ | ⟨z, q⟩
      · cases q
      · obtain ⟨zs, b1, b2, b3⟩ := r.mu j es q
        exact ⟨zs, b1, by rw [upd_ne (r.nbo j es q a0)]; exact b2, b3⟩
    bo := fun j es q => by
      rcases st j _ q with ⟨rfl, q2⟩ | ⟨z, q⟩
      · cases q2; exact ⟨a0, ys, a1, upd_same, a3, hd⟩
      · exact absurd (r.ubo j i es ds q hi) z
    hbo := r.hbo
    inj := fun j k es es' q q' => by
      rcases st j _ q with ⟨_, q⟩ | ⟨_, q⟩
      · cases q
      · rcases st k _ q' with ⟨_, q'⟩ | ⟨_, q'⟩
        · cases q'
        · exact r.inj j k es es' q q'
    nbo := fun j es q => by
      rcases st j _ q with ⟨_, q⟩ | ⟨_, q⟩
      · cases q
      · exact r.nbo j es q
    ubo := fun j k es es' q q' => by
      rcases st j _ q with ⟨ej, _⟩ | ⟨zj, q2⟩
      · rcases st k _ q' with ⟨ek, _⟩ | ⟨zk, q2'⟩
        · rw [ej, ek]
        · rw [ej]; exact r.ubo i k ds es' hi q2'
      · rcases st k _ q' with ⟨ek, _⟩ | ⟨zk, q2'⟩
        · rw [ek]; exact r.ubo j i es ds q2 hi
        · exact r.ubo j k es es' q2 q2' }
/-- slots are forgotten -/
theorem Rel.forget {σ' : L2.St} {e' : Env} (r : Rel K w F ad σ H e) (hl : σ'.length = e'.length) (h : ∀ (j : Nat) (s : Sl), e'[j]? = some s → s = .un ∨ (e[j]? = some s ∧ σ'[j]? = σ[j]?)) : Rel K w F ad σ' H e' where
  sub := r.sub
  old := r.old
  dom := r.dom
  fr := r.fr
  len := hl
  im := fun j d q => by
    rcases h j _ q with z | ⟨z, z'⟩
    · cases z
    · rw [z']; exact r.im j d z
  mu := fun j es q => by
    rcases h j _ q with z | ⟨z, z'⟩
    · cases z
    · rw [z']; exact r.mu j es z
  bo := fun j es q => by
    rcases h j _ q with z | ⟨z, z'⟩
    · cases z
    · rw [z']; exact r.bo j es z
  hbo := r.hbo
  inj := fun j k es es' q q' => by
    rcases h j _ q with z | ⟨z, _⟩
    · cases z
    · rcases h k _ q' with z' | ⟨z', _⟩
      · cases z'
      · exact r.inj j k es es' z z'
  nbo := fun j es q => by
    rcases h j _ q with z | ⟨z, _⟩
    · cases z
    · exact r.nbo j es z
  ubo := fun j k es es' q q' => by
    rcases h j _ q with z | ⟨z, _⟩
    · cases z
    · rcases h k _ q' with z' | ⟨z', _⟩
      · cases z'
      · exact r.ubo j k es es' z z'
end
end DL

/-! The D layer, part 2: rules of expressions and statements over pure data. -/
namespace DL
open PySem PySem.Spec PyProof.Rows L2

abbrev DT := Env → (D → Env → Prop) → Prop
abbrev DB := Env → (Bool → Env → Prop) → Prop
abbrev DA := Env → (List D → Env → Prop) → Prop
abbrev DO := Env → (Option Int → Env → Prop) → Prop
abbrev DTg := D → Env → (Env → Prop) → Prop
abbrev DTgs := List D → Env → (Env → Prop) → Prop
structure DEnds where
  nx : Env → Prop
  rt : D → Env → Prop
  rf : Ow → Env → Prop := fun _ _ => False
  bk : Env → Prop := fun _ => False
  ct : Env → Prop := fun _ => False
abbrev DSt := DEnds → Env → Prop
abbrev DF := Env → (Ow → Env → Prop) → Prop
structure DEnds.le (A B : DEnds) : Prop where
  nx : ∀ e, A.nx e → B.nx e
  rt : ∀ d e, A.rt d e → B.rt d e
  rf : ∀ d e, A.rf d e → B.rf d e
  bk : ∀ e, A.bk e → B.bk e
  ct : ∀ e, A.ct e → B.ct e

/-! ### lifts -/
def EL (K : PySem.W.Frag) (w : Wd) (f : DT) : TE := fun σ H Q => ∃ F ad e, Rel K w F ad σ H e ∧ f e fun d e' => ∀ F' ad' H' v, Same F F' → Rel K w F' ad' σ H' e' → Dq K F' v d → Q v H'
def CL (K : PySem.W.Frag) (w : Wd) (f : DB) : TT := fun σ H Q => ∃ F ad e, Rel K w F ad σ H e ∧ f e fun b e' => ∀ F' ad' H', Same F F' → Rel K w F' ad' σ H' e' → Q b H'
def AL (K : PySem.W.Frag) (w : Wd) (f : DA) : TA := fun σ H Q => ∃ F ad e, Rel K w F ad σ H e ∧ f e fun ds e' => ∀ F' ad' H' vs, Same F F' → Rel K w F' ad' σ H' e' → DqAll K F' vs ds → Q vs H'
def OL (K : PySem.W.Frag) (w : Wd) (f : DO) : TO := fun σ H Q => ∃ F ad e, Rel K w F ad σ H e ∧ f e fun o e' => ∀ F' ad' H', Same F F' → Rel K w F' ad' σ H' e' → Q o H'
/-- an expression that gives a list that nobody else holds -/
def FL (K : PySem.W.Frag) (w : Wd) (f : DF) : TE := fun σ H Q => ∃ F ad e, Rel K w F ad σ H e ∧ f e fun o e' => ∀ F' ad' H' a xs, Same F F' → Rel K w F' ad' σ H' e' → H' a = some xs → Fresh w F' ad' e' a → OwR K F' a xs o → Q (.ref a) H'
def GL (K : PySem.W.Frag) (w : Wd) (g : DTg) : TG := fun v σ H Q => ∃ F ad e d, Rel K w F ad σ H e ∧ Dq K F v d ∧ g d e fun e' => ∀ F' ad' σ' H', Same F F' → Rel K w F' ad' σ' H' e' → Q σ' H'
def GsL (K : PySem.W.Frag) (w : Wd) (g : DTgs) : TGs := fun vs σ H Q => ∃ F ad e ds, Rel K w F ad σ H e ∧ DqAll K F vs ds ∧ g ds e fun e' => ∀ F' ad' σ' H', Same F F' → Rel K w F' ad' σ' H' e' → Q σ' H'
def endL (K : PySem.W.Frag) (w : Wd) (D : Ends) : DEnds where
  nx := fun e' => ∀ F' ad' σ' H', Rel K w F' ad' σ' H' e' → D.nx σ' H'
  rt := fun d e' => ∀ F' ad' σ' H' v, Rel K w F' ad' σ' H' e' → Dq K F' v d → D.rt v H'
  rf := fun ds e' => ∀ F' ad' σ' H' a xs, Rel K w F' ad' σ' H' e' → H' a = some xs → Fresh w F' ad' e' a → OwR K F' a xs ds → D.rt (.ref a) H'
  bk := fun e' => ∀ F' ad' σ' H', Rel K w F' ad' σ' H' e' → D.bk σ' H'
  ct := fun e' => ∀ F' ad' σ' H', Rel K w F' ad' σ' H' e' → D.ct σ' H'
def SL (K : PySem.W.Frag) (w : Wd) (t : DSt) : TS := fun D σ H => ∃ F ad e, Rel K w F ad σ H e ∧ t (endL K w D) e

/-! ### judgements -/
structure DE (X : Cx) (x : Expr) (f : DT) : Prop where
  run : ∀ w, PE X x (EL X.K w f)
  mono : ∀ e (Q Q' : D → Env → Prop), (∀ d e', Q d e' → Q' d e') → f e Q → f e Q'
structure DTe (X : Cx) (x : Expr) (f : DB) : Prop where
  run : ∀ w, PT X x (CL X.K w f)
  mono : ∀ e (Q Q' : Bool → Env → Prop), (∀ d e', Q d e' → Q' d e') → f e Q → f e Q'
structure DW (X : Cx) (x : Expr) (f : DB) : Prop where
  run : ∀ w, PW X x (CL X.K w f)
  mono : ∀ e (Q Q' : Bool → Env → Prop), (∀ d e', Q d e' → Q' d e') → f e Q → f e Q'
structure DAr (X : Cx) (xs : List Expr) (f : DA) : Prop where
  run : ∀ w, PA X xs (AL X.K w f)
  mono : ∀ e (Q Q' : List D → Env → Prop), (∀ d e', Q d e' → Q' d e') → f e Q → f e Q'
structure DFe (X : Cx) (x : Expr) (f : DF) : Prop where
  run : ∀ w, PE X x (FL X.K w f)
  mono : ∀ e (Q Q' : Ow → Env → Prop), (∀ d e', Q d e' → Q' d e') → f e Q → f e Q'
structure DOp (X : Cx) (x : Option Expr) (f : DO) : Prop where
  run : ∀ w, PO X x (OL X.K w f)
  mono : ∀ e (Q Q' : Option Int → Env → Prop), (∀ d e', Q d e' → Q' d e') → f e Q → f e Q'
structure DG (X : Cx) (x : Expr) (g : DTg) : Prop where
  run : ∀ w, PG X x (GL X.K w g)
  mono : ∀ d e (Q Q' : Env → Prop), (∀ e', Q e' → Q' e') → g d e Q → g d e Q'
structure DGs (X : Cx) (xs : List Expr) (g : DTgs) : Prop where
  run : ∀ w, PGs X xs (GsL X.K w g)
  mono : ∀ d e (Q Q' : Env → Prop), (∀ e', Q e' → Q' e') → g d e Q → g d e Q'
structure DS (X : Cx) (s : Stmt) (t : DSt) : Prop where
  run : ∀ w, PS X s (SL X.K w t)
  mono : ∀ (A B : DEnds) e, A.le B → t A e → t B e
structure DSs (X : Cx) (s : List Stmt) (t : DSt) : Prop where
  run : ∀ w, PSs X s (SL X.K w t)
  mono : ∀ (A B : DEnds) e, A.le B → t A e → t B e

/-! ### weaker readings -/
theorem PE.imp {X : Cx} {x : Expr} {t t' : TE} (h : PE X x t) (i : ∀ σ H Q, t' σ H Q → t σ H Q) : PE X x t' := ⟨fun p s σ H Q I q => h.run p s σ H Q I (i σ H Q q)⟩
theorem PT.imp {X : Cx} {x : Expr} {t t' : TT} (h : PT X x t) (i : ∀ σ H Q, t' σ H Q → t σ H Q) : PT X x t' := ⟨fun p s σ H Q I q => h.run p s σ H Q I (i σ H Q q)⟩
theorem PW.imp {X : Cx} {x : Expr} {t t' : TT} (h : PW X x t) (i : ∀ σ H Q, t' σ H Q → t σ H Q) : PW X x t' := ⟨fun wh p s σ H Q I q => h.run wh p s σ H Q I (i σ H Q q)⟩
theorem PA.imp {X : Cx} {x : List Expr} {t t' : TA} (h : PA X x t) (i : ∀ σ H Q, t' σ H Q → t σ H Q) : PA X x t' := ⟨fun pos p s σ H Q I q => h.run pos p s σ H Q I (i σ H Q q)⟩
theorem PO.imp {X : Cx} {x : Option Expr} {t t' : TO} (h : PO X x t) (i : ∀ σ H Q, t' σ H Q → t σ H Q) : PO X x t' := ⟨fun p s σ H Q I q => h.run p s σ H Q I (i σ H Q q)⟩
theorem PS.imp {X : Cx} {x : Stmt} {t t' : TS} (h : PS X x t) (i : ∀ D σ H, t' D σ H → t D σ H) : PS X x t' := ⟨fun p s σ H D I q => h.run p s σ H D I (i D σ H q)⟩
theorem PSs.imp {X : Cx} {x : List Stmt} {t t' : TS} (h : PSs X x t) (i : ∀ D σ H, t' D σ H → t D σ H) : PSs X x t' := ⟨fun p s σ H D I q => h.run p s σ H D I (i D σ H q)⟩
theorem PG.imp {X : Cx} {x : Expr} {t t' : TG} (h : PG X x t) (i : ∀ v σ H Q, t' v σ H Q → t v σ H Q) : PG X x t' := ⟨fun p s σ H v u Q I r q => h.run p s σ H v u Q I r (i v σ H Q q)⟩
theorem PGs.imp {X : Cx} {x : List Expr} {t t' : TGs} (h : PGs X x t) (i : ∀ v σ H Q, t' v σ H Q → t v σ H Q) : PGs X x t' := ⟨fun p s σ H v u Q I r q => h.run p s σ H v u Q I r (i v σ H Q q)⟩

/-- nothing, or one new thing -/
def Grow (F H F' H' : Hp) : Prop := (F' = F ∧ H' = H) ∨ ∃ p o, H p = none ∧ F' = upd F p o ∧ H' = upd H p o
theorem Grow.refl {F H : Hp} : Grow F H F H := .inl ⟨rfl, rfl⟩
theorem Grow.one {F H : Hp} {p : Addr} {o : HO} (h : H p = none) : Grow F H (upd F p o) (upd H p o) := .inr ⟨p, o, h, rfl, rfl⟩
theorem Grow.same {F H F' H' : Hp} (g : Grow F H F' H') (s : Same F H) : Same F F' := by
  rcases g with ⟨rfl, rfl⟩ | ⟨p, o, h, rfl, rfl⟩
  · exact Same.refl _
  · exact same_upd s h
theorem Grow.rel {K : PySem.W.Frag} {w : Wd} {F H F' H' : Hp} {ad : Nat → Addr} {σ : L2.St} {e : Env} (g : Grow F H F' H') (r : Rel K w F ad σ H e) : Rel K w F' ad σ H' e := by
  rcases g with ⟨rfl, rfl⟩ | ⟨p, o, h, rfl, rfl⟩
  · exact r
  · exact r.grow h

section
variable {X : Cx} {x y a b c : Expr} {f g h : DT} {t u : DB} {pos : Pos}

/-! ### constants and names -/
def dC (d : D) : DT := fun e Q => Q d e
theorem de_int {i j} : DE X (.Constant (.int i) j pos) (dC (.int i)) := ⟨fun w => PE.imp pe_int fun σ H Q ⟨F, ad, e, R, q⟩ => q F ad H _ (Same.refl F) R (.int i), fun _ _ _ m q => m _ _ q⟩
theorem de_bl {k j} : DE X (.Constant (.bool k) j pos) (dC (.bool k)) := ⟨fun w => PE.imp pe_bl fun σ H Q ⟨F, ad, e, R, q⟩ => q F ad H _ (Same.refl F) R (.bl k), fun _ _ _ m q => m _ _ q⟩
theorem de_non {j} : DE X (.Constant .none j pos) (dC .none) := ⟨fun w => PE.imp pe_non fun σ H Q ⟨F, ad, e, R, q⟩ => q F ad H _ (Same.refl F) R .non, fun _ _ _ m q => m _ _ q⟩
theorem de_str {z j} : DE X (.Constant (.str z) j pos) (dC (.str z)) := ⟨fun w => PE.imp pe_str fun σ H Q ⟨F, ad, e, R, q⟩ => q F ad H _ (Same.refl F) R (.str z), fun _ _ _ m q => m _ _ q⟩
/-- a global constant -/
theorem de_glob {v : V} {d : D} (hp : PE X x (tC v)) (hd : ∀ F, Dq X.K F v d) : DE X x (dC d) := ⟨fun w => PE.imp hp fun σ H Q ⟨F, ad, e, R, q⟩ => q F ad H _ (Same.refl F) R (hd F), fun _ _ _ m q => m _ _ q⟩

def allD : List (Option D) → Option (List D)
  | [] => some []
  | some d :: r => (allD r).map (d :: ·)
  | none :: _ => none
/-- what a place of one's own is as data -/
def owD : Ow → Option D
  | .lst ds => some (.list ds)
  | .dct kvs => some (.dict (kvs.map fun p => (kD p.1, p.2)))
  | .obj C (f :: fs) => (allD (f :: fs)).map fun ds => .dict [(.bool true, .tuple (.int (C : Nat) :: ds))]
  | _ => none
theorem optR_all {K : PySem.W.Frag} {F : Hp} : ∀ {vs : List (Option V)} {fs : List (Option D)} {ds : List D}, OptR K F vs fs → allD fs = some ds → ∃ us, vs = us.map some ∧ DqAll K F us ds
  | _, _, ds, .nil, h => by cases h; exact ⟨[], rfl, .nil⟩
  | _, _, ds, .none t, h => by cases h
  | _, _, ds, .some (ds := fs) (d := d) (v := v) p t, h => by
    have h' : (allD fs).map (d :: ·) = some ds := h
    cases z : allD fs with
    | none => rw [z] at h'; cases h'
    | some es =>
      rw [z] at h'
      cases h'
      obtain ⟨us, rfl, q⟩ := optR_all t z
      exact ⟨v :: us, rfl, .cons p q⟩
theorem obj_dq {K : PySem.W.Frag} {F : Hp} {p C dx : Addr} {vs : List (Option V)} {fs : List (Option D)} {ho : HO} {d : D} (h1 : F dx = some (.xd [])) (h2 : dx ≠ p) (h3 : ho = SlX.SlO p C dx vs) (h4 : OptR K F vs fs) (hd : owD (.obj C fs) = some d) (h5 : F p = some ho) : Dq K F (.ref p) d := by
  cases fs with
  | nil => cases hd
  | cons f fs =>
    have hd' : (allD (f :: fs)).map (fun ds => PyData.dict [(.bool true, .tuple (.int (C : Nat) :: ds))]) = some d := hd
    cases z : allD (f :: fs) with
    | none => rw [z] at hd'; cases hd'
    | some ds =>
      rw [z] at hd'
      cases hd'
      obtain ⟨us, rfl, q⟩ := optR_all h4 z
      subst h3
      exact .obj h5 h1 h2 q
theorem kvs_dq {K : PySem.W.Frag} {F : Hp} : ∀ {xs : List (Key × V)} {ds : List (Key × D)}, KvR K F xs ds → DqKv K F xs (ds.map fun p => (kD p.1, p.2))
  | _, _, .nil => .nil
  | _, _, .cons h t => .cons rfl h (kvs_dq t)
/-- behind it the thing may be locked for good -/
def tMay (t : TE) : TE := fun σ H Q => t σ H fun v H1 => Q v H1 ∨ ∃ d u, v = .ref d ∧ H1 d = some u ∧ Mut (some u) ∧ ∀ od, Q v (upd H1 d (.frz od u))
theorem pe_may {X : Cx} {x : Expr} {t : TE} (h : PE X x t) : PE X x (tMay t) := by
  refine ⟨fun pins s σ H Q I q => ?_⟩
  refine thn (h.run pins s σ H _ I q) fun v s1 ⟨y, H1, I1, r1, q1⟩ => ?_
  rcases q1 with q1 | ⟨d, u, rfl, hd, mu, q1⟩
  · exact ⟨y, H1, I1, r1, q1⟩
  · obtain ⟨od, I2⟩ := I1.lock hd mu
    exact ⟨_, _, I2, r1, q1 od⟩
/-- a place of one's own becomes data -/
theorem Rel.data {K : PySem.W.Frag} {w : Wd} {F : Hp} {ad : Nat → Addr} {σ : L2.St} {H : Hp} {e : Env} {i : Nat} {o : Ow} {d : D} (R : Rel K w F ad σ H e) (hi : e[i]? = some (.mu o)) (hd : owD o = some d) :
    σ[i]? = some (some (.ref (ad i))) ∧ ((∃ F', Same F F' ∧ Rel K w F' ad σ H (e.set i (.im d)) ∧ Dq K F' (.ref (ad i)) d) ∨
      ∃ u, H (ad i) = some u ∧ Mut (some u) ∧ ∀ od, ∃ F', Same F F' ∧ Rel K w F' ad σ (upd H (ad i) (.frz od u)) (e.set i (.im d)) ∧ Dq K F' (.ref (ad i)) d) := by
  obtain ⟨ho, s1, s2, s3, s4, _⟩ := R.mu i o hi
  cases s4 with
  | lst r =>
    cases hd
    obtain ⟨R2, sm, dp, _⟩ := R.freeze hi s2
    exact ⟨s1, .inl ⟨_, sm, R2, dp⟩⟩
  | @dct xs ds r =>
    cases hd
    refine ⟨s1, .inr ⟨_, s2, trivial, fun od => ?_⟩⟩
    have R1 := R.mutate (ys := .frz od (.dK xs)) (ds' := .dctZ ds) hi (.dctZ r)
    have hi1 : (e.set i (.mu (.dctZ ds)))[i]? = some (.mu (.dctZ ds)) := by
      rw [List.getElem?_set, if_pos rfl, if_pos (List.getElem?_eq_some_iff.mp hi).1]
    obtain ⟨R2, sm, dp, _⟩ := R1.freezeG (dd := .dict (ds.map fun p => (kD p.1, p.2))) hi1 upd_same (fun F' z r' => by
      cases r' with
      | dctZ r' => exact .dct z (kvs_dq r'))
    rw [List.set_set] at R2
    exact ⟨_, sm, R2, dp⟩
  | dtu r => cases hd
  | dctZ r => cases hd
  | obj h1 h2 h3 h4 =>
    obtain ⟨R2, sm, dp, _⟩ := R.freezeG (dd := d) hi s2 (fun F' z r' => by
      cases r' with
      | obj h1 h2 h3 h4 => exact obj_dq h1 h2 h3 h4 hd z)
    exact ⟨s1, .inl ⟨_, sm, R2, dp⟩⟩
  | set => cases hd
def dVar (i : Nat) : DT := fun e Q => match e[i]? with
  | some (.im d) => Q d e
  | some (.mu o) => match owD o with
    | some d => Q d (e.set i (.im d))
    | none => False
  | _ => False
theorem de_var (i : Nat) (hp : PE X x (tVar i)) : DE X x (dVar i) := by
  refine ⟨fun w => PE.imp (pe_may hp) fun σ H Q ⟨F, ad, e, R, q⟩ => ?_, fun e Q Q' m q => ?_⟩
  · unfold dVar at q
    split at q
    · rename_i d he
      obtain ⟨v, s1, s2⟩ := R.im i d he
      exact ⟨v, s1, .inl (q F ad H v (Same.refl F) R s2)⟩
    · rename_i o he
      split at q
      · rename_i d hd
        obtain ⟨s1, ⟨F', sm, R2, dp⟩ | ⟨u, hu, mu, k⟩⟩ := R.data he hd
        · exact ⟨_, s1, .inl (q F' ad H _ sm R2 dp)⟩
        · refine ⟨_, s1, .inr ⟨_, u, rfl, hu, mu, fun od => ?_⟩⟩
          obtain ⟨F', sm, R2, dp⟩ := k od
          exact q F' ad _ _ sm R2 dp
      · exact q.elim
    · exact q.elim
  · unfold dVar at q ⊢
    split at q
    · exact m _ _ q
    · split at q
      · exact m _ _ q
      · exact q.elim
    · exact q.elim

/-! ### operators -/
abbrev G2 := D → D → (D → Prop) → Prop
structure OpD (K : PySem.W.Frag) (r : R2) (g : G2) : Prop where
  run : ∀ (F H : Hp) (x y : V) (d1 d2 : D) (Q : VK), Same F H → Dq K F x d1 → Dq K F y d2 → g d1 d2 (fun d => ∀ v F' H', Grow F H F' H' → Dq K F' v d → Q v H') → r x y H Q
  mono : ∀ d1 d2 (P P' : D → Prop), (∀ d, P d → P' d) → g d1 d2 P → g d1 d2 P'
def dBin (g : G2) (f h : DT) : DT := fun e Q => f e fun d1 e1 => h e1 fun d2 e2 => g d1 d2 fun d => Q d e2
theorem dBin_mono {g : G2} (hg : ∀ d1 d2 (P P' : D → Prop), (∀ d, P d → P' d) → g d1 d2 P → g d1 d2 P') (ha : DE X a f) (hb : DE X b h) : ∀ e (Q Q' : D → Env → Prop), (∀ d e', Q d e' → Q' d e') → dBin g f h e Q → dBin g f h e Q' :=
  fun e Q Q' m q => ha.mono _ _ _ (fun d1 e1 q1 => hb.mono _ _ _ (fun d2 e2 q2 => hg _ _ _ _ (fun d q3 => m _ _ q3) q2) q1) q
theorem bin_imp {r : R2} {g : G2} (hg : OpD X.K r g) (ha : DE X a f) (hb : DE X b h) (w : Wd) : ∀ σ H Q, EL X.K w (dBin g f h) σ H Q → tOp r (EL X.K w f) (EL X.K w h) σ H Q := by
  rintro σ H Q ⟨F, ad, e, R, q⟩
  refine ⟨F, ad, e, R, ha.mono _ _ _ (fun d1 e1 q1 F1 ad1 H1 v1 s1 R1 p1 => ?_) q⟩
  refine ⟨F1, ad1, e1, R1, hb.mono _ _ _ (fun d2 e2 q2 F2 ad2 H2 v2 s2 R2 p2 => ?_) q1⟩
  refine hg.run F2 H2 v1 v2 d1 d2 Q R2.sub (dp_mono s2 _ _ p1) p2 (hg.mono _ _ _ _ (fun d q3 v F3 H3 gr p3 => ?_) q2)
  exact q3 F3 ad2 H3 v (s1.trans (s2.trans (gr.same R2.sub))) (gr.rel R2) p3
theorem de_bin {op : Operator} {r : R2} {g : G2} (ho : OpR X (binaryOp op) r) (hg : OpD X.K r g) (ha : DE X a f) (hb : DE X b h) : DE X (.BinOp a op b pos) (dBin g f h) :=
  ⟨fun w => PE.imp (pe_op ho (ha.run w) (hb.run w)) (bin_imp hg ha hb w), dBin_mono hg.mono ha hb⟩
theorem de_cmp {op : CmpOp} {r : R2} {g : G2} (ho : OpR X (compareOp op) r) (hg : OpD X.K r g) (ha : DE X a f) (hb : DE X b h) (hm : behindInMarks op b = false) : DE X (.Compare a [op] [b] pos) (dBin g f h) :=
  ⟨fun w => PE.imp (pe_cmpR ho (ha.run w) (hb.run w) hm) (bin_imp hg ha hb w), dBin_mono hg.mono ha hb⟩
/-- a value that is a bool, as a test -/
def dB (f : DT) : DB := fun e Q => f e fun d e' => match d with
  | .bool k => Q k e'
  | _ => False
theorem dB_mono (hm : ∀ e (Q Q' : D → Env → Prop), (∀ d e', Q d e' → Q' d e') → f e Q → f e Q') : ∀ e (Q Q' : Bool → Env → Prop), (∀ d e', Q d e' → Q' d e') → dB f e Q → dB f e Q' :=
  fun e Q Q' m q => hm _ _ _ (fun d e1 q1 => by
    cases d with
    | bool k => exact m _ _ q1
    | _ => exact q1.elim) q
theorem test_imp {t : TE} {w : Wd} (h : ∀ σ H Q, EL X.K w f σ H Q → t σ H Q) (hm : ∀ e (Q Q' : D → Env → Prop), (∀ d e', Q d e' → Q' d e') → f e Q → f e Q') : ∀ σ H Q, CL X.K w (dB f) σ H Q → (t σ H fun x H' => ∃ k, x = .bl k ∧ Q k H') := by
  rintro σ H Q ⟨F, ad, e, R, q⟩
  refine h σ H _ ⟨F, ad, e, R, hm _ _ _ (fun d e1 q1 F1 ad1 H1 v1 s1 R1 p1 => ?_) q⟩
  cases d with
  | bool k => exact ⟨k, dp_bool p1, q1 F1 ad1 H1 s1 R1⟩
  | _ => exact q1.elim
theorem dt_cmp {op : CmpOp} {r : R2} {g : G2} (ho : OpR X (compareOp op) r) (hg : OpD X.K r g) (ha : DE X a f) (hb : DE X b h) (hm : behindInMarks op b = false) : DTe X (.Compare a [op] [b] pos) (dB (dBin g f h)) :=
  ⟨fun w => PT.imp (pt_cmpR ho (ha.run w) (hb.run w) hm) (test_imp (bin_imp hg ha hb w) (dBin_mono hg.mono ha hb)), dB_mono (dBin_mono hg.mono ha hb)⟩
theorem dt_val (ha : DE X a f) (he : ∀ whole, isTrue a X.env whole = (do let v ← whole; standAt a.pos; holding [v] (truthy v)) := by intro _; rfl) : DTe X a (dB f) :=
  ⟨fun w => PT.imp (pt_val (ha.run w) he) (test_imp (fun _ _ _ q => q) ha.mono), dB_mono ha.mono⟩
/-- a op b op' c -/
def dChain (g g' : G2) (f h k : DT) : DT := fun e Q => f e fun d1 e1 => h e1 fun d2 e2 => g d1 d2 fun z => match z with
  | .bool true => k e2 fun d3 e3 => g' d2 d3 fun d => Q d e3
  | .bool false => Q (.bool false) e2
  | _ => False
theorem dChain_mono {g g' : G2} {k : DT} (hg : ∀ d1 d2 (P P' : D → Prop), (∀ d, P d → P' d) → g d1 d2 P → g d1 d2 P') (hg' : ∀ d1 d2 (P P' : D → Prop), (∀ d, P d → P' d) → g' d1 d2 P → g' d1 d2 P') (ha : DE X a f) (hb : DE X b h) (hc : DE X c k) : ∀ e (Q Q' : D → Env → Prop), (∀ d e', Q d e' → Q' d e') → dChain g g' f h k e Q → dChain g g' f h k e Q' :=
  fun e Q Q' m q => ha.mono _ _ _ (fun d1 e1 q1 => hb.mono _ _ _ (fun d2 e2 q2 => hg _ _ _ _ (fun z q3 => by
    cases z with
    | bool kk =>
      cases kk with
      | true => exact hc.mono _ _ _ (fun d3 e3 q4 => hg' _ _ _ _ (fun d q5 => m _ _ q5) q4) q3
      | false => exact m _ _ q3
    | _ => exact q3.elim) q2) q1) q
/-- an operation that makes nothing -/
structure OpS (K : PySem.W.Frag) (r : R2) (g : G2) : Prop where
  run : ∀ (F H : Hp) (x y : V) (d1 d2 : D) (Q : VK), Same F H → Dq K F x d1 → Dq K F y d2 → g d1 d2 (fun d => ∀ v, Dq K F v d → Q v H) → r x y H Q
  mono : ∀ d1 d2 (P P' : D → Prop), (∀ d, P d → P' d) → g d1 d2 P → g d1 d2 P'
theorem OpS.op {K : PySem.W.Frag} {r : R2} {g : G2} (s : OpS K r g) : OpD K r g := ⟨fun F H x y d1 d2 Q sm p1 p2 q => s.run F H x y d1 d2 Q sm p1 p2 (s.mono _ _ _ _ (fun d q1 v p => q1 v F H Grow.refl p) q), s.mono⟩
theorem chain_imp {r r' : R2} {g g' : G2} {k : DT} (hg : OpS X.K r g) (hg' : OpD X.K r' g') (ha : DE X a f) (hb : DE X b h) (hc : DE X c k) (w : Wd) : ∀ σ H Q, EL X.K w (dChain g g' f h k) σ H Q → tChain r r' (EL X.K w f) (EL X.K w h) (EL X.K w k) σ H Q := by
  rintro σ H Q ⟨F, ad, e, R, q⟩
  refine ⟨F, ad, e, R, ha.mono _ _ _ (fun d1 e1 q1 F1 ad1 H1 v1 s1 R1 p1 => ?_) q⟩
  refine ⟨F1, ad1, e1, R1, hb.mono _ _ _ (fun d2 e2 q2 F2 ad2 H2 v2 s2 R2 p2 => ?_) q1⟩
  refine hg.run F2 H2 v1 v2 d1 d2 _ R2.sub (dp_mono s2 _ _ p1) p2 (hg.mono _ _ _ _ (fun z q3 v p3 => ?_) q2)
  cases z with
  | bool kk =>
    refine ⟨kk, dp_bool p3, ?_⟩
    cases kk with
    | true =>
      rw [if_pos rfl]
      refine ⟨F2, ad2, e2, R2, hc.mono _ _ _ (fun d3 e3 q4 F3 ad3 H3 v3 s3 R3 p4 => ?_) q3⟩
      refine hg'.run F3 H3 v2 v3 d2 d3 Q R3.sub (dp_mono s3 _ _ p2) p4 (hg'.mono _ _ _ _ (fun d q5 v' F4 H4 gr p5 => ?_) q4)
      exact q5 F4 ad3 H4 v' (s1.trans (s2.trans (s3.trans (gr.same R3.sub)))) (gr.rel R3) p5
    | false =>
      rw [if_neg Bool.false_ne_true]
      exact q3 F2 ad2 H2 _ (s1.trans s2) R2 (.bl false)
  | _ => exact q3.elim
theorem de_chain {op op' : CmpOp} {r r' : R2} {g g' : G2} {k : DT} (ho : OpR X (compareOp op) r) (ho' : OpR X (compareOp op') r') (hg : OpS X.K r g) (hg' : OpD X.K r' g') (ha : DE X a f) (hb : DE X b h) (hc : DE X c k)
    (hm : lastMarks [op, op'] [b, c] = false := by with_unfolding_all rfl) : DE X (.Compare a [op, op'] [b, c] pos) (dChain g g' f h k) :=
  ⟨fun w => PE.imp (pe_chain ho ho' (ha.run w) (hb.run w) (hc.run w) hm) (chain_imp hg hg' ha hb hc w), dChain_mono hg.mono hg'.mono ha hb hc⟩
theorem dt_chain {op op' : CmpOp} {r r' : R2} {g g' : G2} {k : DT} (ho : OpR X (compareOp op) r) (ho' : OpR X (compareOp op') r') (hg : OpS X.K r g) (hg' : OpD X.K r' g') (ha : DE X a f) (hb : DE X b h) (hc : DE X c k)
    (hm : lastMarks [op, op'] [b, c] = false := by with_unfolding_all rfl) : DTe X (.Compare a [op, op'] [b, c] pos) (dB (dChain g g' f h k)) :=
  ⟨fun w => PT.imp (pt_chain ho ho' (ha.run w) (hb.run w) (hc.run w) hm) (test_imp (chain_imp hg hg' ha hb hc w) (dChain_mono hg.mono hg'.mono ha hb hc)), dB_mono (dChain_mono hg.mono hg'.mono ha hb hc)⟩

/-! ### ints -/
def gI (C : Int → Int → Prop) (k : Int → Int → D) : G2 := fun d1 d2 P => match d1, d2 with
  | .int i, .int j => C i j ∧ P (k i j)
  | _, _ => False
def gI0 (k : Int → Int → D) : G2 := fun d1 d2 P => match d1, d2 with
  | .int i, .int j => P (k i j)
  | _, _ => False
theorem gI_mono (C : Int → Int → Prop) (k : Int → Int → D) : ∀ d1 d2 (P P' : D → Prop), (∀ d, P d → P' d) → gI C k d1 d2 P → gI C k d1 d2 P' := fun d1 d2 P P' m q => by
  unfold gI at q ⊢
  split at q
  · exact ⟨q.1, m _ q.2⟩
  · exact q.elim
theorem gI0_mono (k : Int → Int → D) : ∀ d1 d2 (P P' : D → Prop), (∀ d, P d → P' d) → gI0 k d1 d2 P → gI0 k d1 d2 P' := fun d1 d2 P P' m q => by
  unfold gI0 at q ⊢
  split at q
  · exact m _ q
  · exact q.elim
theorem os_I {K : PySem.W.Frag} {C : Int → Int → Prop} {k : Int → Int → Int} : OpS K (rI C fun i j => .int (k i j)) (gI C fun i j => .int (k i j)) := ⟨fun F H x y d1 d2 Q sm p1 p2 q => by
  unfold gI at q
  split at q
  · exact ⟨_, _, dp_int p1, dp_int p2, q.1, q.2 _ (.int _)⟩
  · exact q.elim, gI_mono _ _⟩
theorem os_I0 {K : PySem.W.Frag} {k : Int → Int → Int} : OpS K (rI0 fun i j => .int (k i j)) (gI0 fun i j => .int (k i j)) := ⟨fun F H x y d1 d2 Q sm p1 p2 q => by
  unfold gI0 at q
  split at q
  · exact ⟨_, _, dp_int p1, dp_int p2, q _ (.int _)⟩
  · exact q.elim, gI0_mono _⟩
theorem os_B0 {K : PySem.W.Frag} {k : Int → Int → Bool} : OpS K (rI0 fun i j => .bl (k i j)) (gI0 fun i j => .bool (k i j)) := ⟨fun F H x y d1 d2 Q sm p1 p2 q => by
  unfold gI0 at q
  split at q
  · exact ⟨_, _, dp_int p1, dp_int p2, q _ (.bl _)⟩
  · exact q.elim, gI0_mono _⟩
/-- == of ints, or of any data -/
def gEq : G2 := fun d1 d2 P => match d1, d2 with
  | .int i, .int j => P (.bool (decide (i = j)))
  | _, _ => SeqAt.shaped d1 = true ∧ SeqAt.shaped d2 = true ∧ P (.bool (PyData.eqv d1 d2))
def gNe : G2 := fun d1 d2 P => match d1, d2 with
  | .int i, .int j => P (.bool (!decide (i = j)))
  | _, _ => SeqAt.shaped d1 = true ∧ SeqAt.shaped d2 = true ∧ P (.bool (!PyData.eqv d1 d2))
theorem shaped_int (i : Int) : SeqAt.shaped (.int i) = true := by
  unfold SeqAt.shaped
  simp [PyData.canLay0, PyData.depth]
theorem eqv_int (i j : Int) : PyData.eqv (.int i) (.int j) = decide (i = j) := by
  simp [PyData.eqv]
  by_cases h : i = j <;> simp [h]
theorem os_eq {K : PySem.W.Frag} : OpS K (rEqD K) gEq := ⟨fun F H x y d1 d2 Q sm p1 p2 q => by
  unfold gEq at q
  split at q
  · exact ⟨_, _, dq_dp _ _ (SeqAt.canLay_of_shaped (shaped_int _)) (dp_mono sm _ _ p1), dq_dp _ _ (SeqAt.canLay_of_shaped (shaped_int _)) (dp_mono sm _ _ p2), shaped_int _, shaped_int _, by rw [eqv_int]; exact q _ (.bl _)⟩
  · exact ⟨_, _, dq_dp _ _ (SeqAt.canLay_of_shaped q.1) (dp_mono sm _ _ p1), dq_dp _ _ (SeqAt.canLay_of_shaped q.2.1) (dp_mono sm _ _ p2), q.1, q.2.1, q.2.2 _ (.bl _)⟩, fun d1 d2 P P' m q => by
  unfold gEq at q ⊢
  split at q
  · exact m _ q
  · exact ⟨q.1, q.2.1, m _ q.2.2⟩⟩
theorem os_ne {K : PySem.W.Frag} : OpS K (rNeD K) gNe := ⟨fun F H x y d1 d2 Q sm p1 p2 q => by
  unfold gNe at q
  split at q
  · exact ⟨_, _, dq_dp _ _ (SeqAt.canLay_of_shaped (shaped_int _)) (dp_mono sm _ _ p1), dq_dp _ _ (SeqAt.canLay_of_shaped (shaped_int _)) (dp_mono sm _ _ p2), shaped_int _, shaped_int _, by rw [eqv_int]; exact q _ (.bl _)⟩
  · exact ⟨_, _, dq_dp _ _ (SeqAt.canLay_of_shaped q.1) (dp_mono sm _ _ p1), dq_dp _ _ (SeqAt.canLay_of_shaped q.2.1) (dp_mono sm _ _ p2), q.1, q.2.1, q.2.2 _ (.bl _)⟩, fun d1 d2 P P' m q => by
  unfold gNe at q ⊢
  split at q
  · exact m _ q
  · exact ⟨q.1, q.2.1, m _ q.2.2⟩⟩
/-- is None, is not None -/
def isNone : D → Bool
  | .none => true
  | _ => false
def gIsN : G2 := fun d1 d2 P => match d2 with
  | .none => P (.bool (isNone d1))
  | _ => False
def gNotN : G2 := fun d1 d2 P => match d2 with
  | .none => P (.bool (!isNone d1))
  | _ => False
theorem isNone_iff {K : PySem.W.Frag} {F : Hp} {v : V} {d : D} (p : Dq K F v d) : decide (v = .non) = isNone d := by cases p <;> rfl
theorem os_isN {K : PySem.W.Frag} : OpS K (fun x y H Q => y = .non ∧ Q (.bl (decide (x = .non))) H) gIsN := ⟨fun F H x y d1 d2 Q sm p1 p2 q => by
  cases d2 with
  | none => exact ⟨dp_none p2, by rw [isNone_iff p1]; exact q _ (.bl _)⟩
  | _ => exact q.elim, fun d1 d2 P P' m q => by
  cases d2 with
  | none => exact m _ q
  | _ => exact q.elim⟩
theorem os_notN {K : PySem.W.Frag} : OpS K (fun x y H Q => y = .non ∧ Q (.bl (!decide (x = .non))) H) gNotN := ⟨fun F H x y d1 d2 Q sm p1 p2 q => by
  cases d2 with
  | none => exact ⟨dp_none p2, by rw [isNone_iff p1]; exact q _ (.bl _)⟩
  | _ => exact q.elim, fun d1 d2 P P' m q => by
  cases d2 with
  | none => exact m _ q
  | _ => exact q.elim⟩
/-! unary -/
def dUn (k : Int → D) (f : DT) : DT := fun e Q => f e fun d e1 => match d with
  | .int i => Q (k i) e1
  | _ => False
theorem de_neg (ha : DE X a f) : DE X (.UnaryOp .USub a pos) (dUn (fun i => .int (-i)) f) := by
  refine ⟨fun w => PE.imp (pe_un un_neg (ha.run w)) ?_, fun e Q Q' m q => ha.mono _ _ _ (fun d e1 q1 => ?_) q⟩
  · rintro σ H Q ⟨F, ad, e, R, q⟩
    refine ⟨F, ad, e, R, ha.mono _ _ _ (fun d1 e1 q1 F1 ad1 H1 v1 s1 R1 p1 => ?_) q⟩
    cases d1 with
    | int i => exact ⟨i, dp_int p1, q1 F1 ad1 H1 _ s1 R1 (.int _)⟩
    | _ => exact q1.elim
  · cases d with
    | int i => exact m _ _ q1
    | _ => exact q1.elim

/-! ### truth, and, or, not -/
def truD : D → Option Bool
  | .none => some false
  | .bool k => some k
  | .int i => some (i != 0)
  | .list ds => some (!ds.isEmpty)
  | .tuple ds => some (!ds.isEmpty)
  | _ => none
def dTru (f : DT) : DB := fun e Q => f e fun d e1 => match truD d with
  | some k => Q k e1
  | none => False
theorem empty_of {K : PySem.W.Frag} {F : Hp} {xs : List V} {ds : List D} (h : DqAll K F xs ds) : xs.isEmpty = ds.isEmpty := by cases h <;> rfl
theorem dt_tru (ha : DE X a f) (he : ∀ whole, isTrue a X.env whole = (do let v ← whole; standAt a.pos; holding [v] (truthy v)) := by intro _; rfl) : DTe X a (dTru f) := by
  refine ⟨fun w => PT.imp (pt_truth (ha.run w) he) ?_, fun e Q Q' m q => ha.mono _ _ _ (fun d e1 q1 => ?_) q⟩
  · rintro σ H Q ⟨F, ad, e, R, q⟩
    refine ⟨F, ad, e, R, ha.mono _ _ _ (fun d1 e1 q1 F1 ad1 H1 v1 s1 R1 p1 => ?_) q⟩
    cases d1 with
    | none => exact ⟨false, by rw [dp_none p1]; rfl, q1 F1 ad1 H1 s1 R1⟩
    | bool k => exact ⟨k, by rw [dp_bool p1]; rfl, q1 F1 ad1 H1 s1 R1⟩
    | int i => exact ⟨i != 0, by rw [dp_int p1]; rfl, q1 F1 ad1 H1 s1 R1⟩
    | str z => exact q1.elim
    | list ds =>
      obtain ⟨a, xs, rfl, h1, h2⟩ := dp_list p1
      exact ⟨!ds.isEmpty, .inl ⟨xs, R1.sub.seq h1, by rw [empty_of h2]⟩, q1 F1 ad1 H1 s1 R1⟩
    | tuple ds =>
      obtain ⟨a, xs, rfl, h1, h2⟩ := dp_tup p1
      exact ⟨!ds.isEmpty, .inr (.inl ⟨xs, sqT_mono R1.sub h1, by rw [empty_of h2]⟩), q1 F1 ad1 H1 s1 R1⟩
    | dict z => exact q1.elim
  · cases hd : truD d with
    | none => rw [hd] at q1; exact q1.elim
    | some k => rw [hd] at q1; exact m _ _ q1
theorem DW.te (h : DW X x t) : DTe X x t := ⟨fun w => (h.run w).pt, h.mono⟩
def dAnd (t u : DB) : DB := fun e Q => t e fun k e1 => if k = true then u e1 Q else Q false e1
def dOr (t u : DB) : DB := fun e Q => t e fun k e1 => if k = true then Q true e1 else u e1 Q
def dNot (t : DB) : DB := fun e Q => t e fun k e1 => Q (!k) e1
variable {rest : List Expr}
theorem dw_and1 (h : DTe X a t) : DW X (.BoolOp .And [a] pos) t := ⟨fun w => pw_and1 (h.run w), h.mono⟩
theorem dw_or1 (h : DTe X a t) : DW X (.BoolOp .Or [a] pos) t := ⟨fun w => pw_or1 (h.run w), h.mono⟩
theorem dw_and (h1 : DTe X a t) (h2 : DW X (.BoolOp .And (b :: rest) pos) u) : DW X (.BoolOp .And (a :: b :: rest) pos) (dAnd t u) := by
  refine ⟨fun w => PW.imp (pw_and (h1.run w) (h2.run w)) ?_, fun e Q Q' m q => h1.mono _ _ _ (fun k e1 q1 => ?_) q⟩
  · rintro σ H Q ⟨F, ad, e, R, q⟩
    refine ⟨F, ad, e, R, h1.mono _ _ _ (fun k e1 q1 F1 ad1 H1 s1 R1 => ?_) q⟩
    cases k with
    | true =>
      rw [if_pos rfl] at q1 ⊢
      exact ⟨F1, ad1, e1, R1, h2.mono _ _ _ (fun k2 e2 q2 F2 ad2 H2 s2 R2 => q2 F2 ad2 H2 (s1.trans s2) R2) q1⟩
    | false =>
      rw [if_neg Bool.false_ne_true] at q1 ⊢
      exact q1 F1 ad1 H1 s1 R1
  · cases k with
    | true => rw [if_pos rfl] at q1 ⊢; exact h2.mono _ _ _ m q1
    | false => rw [if_neg Bool.false_ne_true] at q1 ⊢; exact m _ _ q1
theorem dw_or (h1 : DTe X a t) (h2 : DW X (.BoolOp .Or (b :: rest) pos) u) : DW X (.BoolOp .Or (a :: b :: rest) pos) (dOr t u) := by
  refine ⟨fun w => PW.imp (pw_or (h1.run w) (h2.run w)) ?_, fun e Q Q' m q => h1.mono _ _ _ (fun k e1 q1 => ?_) q⟩
  · rintro σ H Q ⟨F, ad, e, R, q⟩
    refine ⟨F, ad, e, R, h1.mono _ _ _ (fun k e1 q1 F1 ad1 H1 s1 R1 => ?_) q⟩
    cases k with
    | true =>
      rw [if_pos rfl] at q1 ⊢
      exact q1 F1 ad1 H1 s1 R1
    | false =>
      rw [if_neg Bool.false_ne_true] at q1 ⊢
      exact ⟨F1, ad1, e1, R1, h2.mono _ _ _ (fun k2 e2 q2 F2 ad2 H2 s2 R2 => q2 F2 ad2 H2 (s1.trans s2) R2) q1⟩
  · cases k with
    | true => rw [if_pos rfl] at q1 ⊢; exact m _ _ q1
    | false => rw [if_neg Bool.false_ne_true] at q1 ⊢; exact h2.mono _ _ _ m q1
theorem dt_not (h : DTe X a t) : DTe X (.UnaryOp .Not a pos) (dNot t) := by
  refine ⟨fun w => PT.imp (pt_not (h.run w)) ?_, fun e Q Q' m q => h.mono _ _ _ (fun k e1 q1 => m _ _ q1) q⟩
  rintro σ H Q ⟨F, ad, e, R, q⟩
  exact ⟨F, ad, e, R, h.mono _ _ _ (fun k e1 q1 F1 ad1 H1 s1 R1 => q1 F1 ad1 H1 s1 R1) q⟩
/-! .. as values that are bools -/
def dAndV (f h : DT) : DT := fun e Q => f e fun d e1 => match d with
  | .bool true => h e1 Q
  | .bool false => Q (.bool false) e1
  | _ => False
def dOrV (f h : DT) : DT := fun e Q => f e fun d e1 => match d with
  | .bool true => Q (.bool true) e1
  | .bool false => h e1 Q
  | _ => False
def dNotV (f : DT) : DT := fun e Q => f e fun d e1 => match d with
  | .bool k => Q (.bool (!k)) e1
  | _ => False
theorem de_one {op} (ha : DE X a f) : DE X (.BoolOp op [a] pos) f := ⟨fun w => pe_one (ha.run w), ha.mono⟩
theorem de_and (ha : DE X a f) (hb : DE X (.BoolOp .And (b :: rest) pos) h) : DE X (.BoolOp .And (a :: b :: rest) pos) (dAndV f h) := by
  refine ⟨fun w => PE.imp (pe_and (ha.run w) (hb.run w)) ?_, fun e Q Q' m q => ha.mono _ _ _ (fun d e1 q1 => ?_) q⟩
  · rintro σ H Q ⟨F, ad, e, R, q⟩
    refine ⟨F, ad, e, R, ha.mono _ _ _ (fun d e1 q1 F1 ad1 H1 v1 s1 R1 p1 => ?_) q⟩
    cases d with
    | bool k =>
      refine ⟨k, dp_bool p1, ?_⟩
      cases k with
      | true => rw [if_pos rfl]; exact ⟨F1, ad1, e1, R1, hb.mono _ _ _ (fun d2 e2 q2 F2 ad2 H2 v2 s2 R2 p2 => q2 F2 ad2 H2 v2 (s1.trans s2) R2 p2) q1⟩
      | false => rw [if_neg Bool.false_ne_true]; exact q1 F1 ad1 H1 _ s1 R1 (.bl _)
    | _ => exact q1.elim
  · cases d with
    | bool k =>
      cases k with
      | true => exact hb.mono _ _ _ m q1
      | false => exact m _ _ q1
    | _ => exact q1.elim
theorem de_or (ha : DE X a f) (hb : DE X (.BoolOp .Or (b :: rest) pos) h) : DE X (.BoolOp .Or (a :: b :: rest) pos) (dOrV f h) := by
  refine ⟨fun w => PE.imp (pe_or (ha.run w) (hb.run w)) ?_, fun e Q Q' m q => ha.mono _ _ _ (fun d e1 q1 => ?_) q⟩
  · rintro σ H Q ⟨F, ad, e, R, q⟩
    refine ⟨F, ad, e, R, ha.mono _ _ _ (fun d e1 q1 F1 ad1 H1 v1 s1 R1 p1 => ?_) q⟩
    cases d with
    | bool k =>
      refine ⟨k, dp_bool p1, ?_⟩
      cases k with
      | true => rw [if_pos rfl]; exact q1 F1 ad1 H1 _ s1 R1 (.bl _)
      | false => rw [if_neg Bool.false_ne_true]; exact ⟨F1, ad1, e1, R1, hb.mono _ _ _ (fun d2 e2 q2 F2 ad2 H2 v2 s2 R2 p2 => q2 F2 ad2 H2 v2 (s1.trans s2) R2 p2) q1⟩
    | _ => exact q1.elim
  · cases d with
    | bool k =>
      cases k with
      | true => exact m _ _ q1
      | false => exact hb.mono _ _ _ m q1
    | _ => exact q1.elim
theorem de_not (ha : DE X a f) : DE X (.UnaryOp .Not a pos) (dNotV f) := by
  refine ⟨fun w => PE.imp (pe_not (ha.run w)) ?_, fun e Q Q' m q => ha.mono _ _ _ (fun d e1 q1 => ?_) q⟩
  · rintro σ H Q ⟨F, ad, e, R, q⟩
    refine ⟨F, ad, e, R, ha.mono _ _ _ (fun d e1 q1 F1 ad1 H1 v1 s1 R1 p1 => ?_) q⟩
    cases d with
    | bool k => exact ⟨k, dp_bool p1, q1 F1 ad1 H1 _ s1 R1 (.bl _)⟩
    | _ => exact q1.elim
  · cases d with
    | bool k => exact m _ _ q1
    | _ => exact q1.elim
def dIf (t : DB) (f h : DT) : DT := fun e Q => t e fun k e1 => if k = true then f e1 Q else h e1 Q
theorem de_if (hc : DTe X c t) (ha : DE X a f) (hb : DE X b h) : DE X (.IfExp c a b pos) (dIf t f h) := by
  refine ⟨fun w => PE.imp (pe_ifExp (hc.run w) (ha.run w) (hb.run w)) ?_, fun e Q Q' m q => hc.mono _ _ _ (fun k e1 q1 => ?_) q⟩
  · rintro σ H Q ⟨F, ad, e, R, q⟩
    refine ⟨F, ad, e, R, hc.mono _ _ _ (fun k e1 q1 F1 ad1 H1 s1 R1 => ?_) q⟩
    cases k with
    | true =>
      rw [if_pos rfl] at q1 ⊢
      exact ⟨F1, ad1, e1, R1, ha.mono _ _ _ (fun d2 e2 q2 F2 ad2 H2 v2 s2 R2 p2 => q2 F2 ad2 H2 v2 (s1.trans s2) R2 p2) q1⟩
    | false =>
      rw [if_neg Bool.false_ne_true] at q1 ⊢
      exact ⟨F1, ad1, e1, R1, hb.mono _ _ _ (fun d2 e2 q2 F2 ad2 H2 v2 s2 R2 p2 => q2 F2 ad2 H2 v2 (s1.trans s2) R2 p2) q1⟩
  · cases k with
    | true => rw [if_pos rfl] at q1 ⊢; exact ha.mono _ _ _ m q1
    | false => rw [if_neg Bool.false_ne_true] at q1 ⊢; exact hb.mono _ _ _ m q1

/-! ### arguments, displays -/
def dNil : DA := fun e Q => Q [] e
def dCons (f : DT) (r : DA) : DA := fun e Q => f e fun d e1 => r e1 fun ds e2 => Q (d :: ds) e2
variable {es : List Expr} {r : DA}
theorem da_nil : DAr X [] dNil := ⟨fun w => PA.imp pa_nil fun σ H Q ⟨F, ad, e, R, q⟩ => q F ad H [] (Same.refl F) R .nil, fun _ _ _ m q => m _ _ q⟩
theorem da_cons (ha : DE X a f) (hr : DAr X es r) (hs : starEach (a :: es) X.env = (false, eval a X.env) :: starEach es X.env := by rfl) : DAr X (a :: es) (dCons f r) := by
  refine ⟨fun w => PA.imp (pa_cons (ha.run w) (hr.run w) hs) ?_, fun e Q Q' m q => ha.mono _ _ _ (fun d e1 q1 => hr.mono _ _ _ (fun ds e2 q2 => m _ _ q2) q1) q⟩
  rintro σ H Q ⟨F, ad, e, R, q⟩
  refine ⟨F, ad, e, R, ha.mono _ _ _ (fun d e1 q1 F1 ad1 H1 v1 s1 R1 p1 => ?_) q⟩
  exact ⟨F1, ad1, e1, R1, hr.mono _ _ _ (fun ds e2 q2 F2 ad2 H2 vs s2 R2 p2 => q2 F2 ad2 H2 (v1 :: vs) (s1.trans s2) R2 (.cons (dp_mono s2 _ _ p1) p2)) q1⟩
def dTup (r : DA) : DT := fun e Q => r e fun ds e1 => ds.length ≤ sizeLine ∧ Q (.tuple ds) e1
def dLst (r : DA) : DT := fun e Q => r e fun ds e1 => ds.length ≤ sizeLine ∧ Q (.list ds) e1
theorem de_tup {x1} (hr : DAr X es r) : DE X (.Tuple es x1 pos) (dTup r) := by
  refine ⟨fun w => PE.imp (pe_tup (hr.run w)) ?_, fun e Q Q' m q => hr.mono _ _ _ (fun ds e1 q1 => ⟨q1.1, m _ _ q1.2⟩) q⟩
  rintro σ H Q ⟨F, ad, e, R, q⟩
  refine ⟨F, ad, e, R, hr.mono _ _ _ (fun ds e1 q1 F1 ad1 H1 vs s1 R1 p1 => ⟨by rw [dpAll_len p1]; exact q1.1, fun p hp => ?_⟩) q⟩
  have sm := same_upd (o := .tup vs) R1.sub hp
  exact q1.2 _ ad1 _ _ (s1.trans sm) (R1.grow hp) (.tup (SqT.of upd_same) (dpAll_mono sm _ _ p1))
theorem de_lst (hr : DAr X es r) : DE X (.List es pos) (dLst r) := by
  refine ⟨fun w => PE.imp (pe_lst (hr.run w)) ?_, fun e Q Q' m q => hr.mono _ _ _ (fun ds e1 q1 => ⟨q1.1, m _ _ q1.2⟩) q⟩
  rintro σ H Q ⟨F, ad, e, R, q⟩
  refine ⟨F, ad, e, R, hr.mono _ _ _ (fun ds e1 q1 F1 ad1 H1 vs s1 R1 p1 => ⟨by rw [dpAll_len p1]; exact q1.1, fun p hp => ?_⟩) q⟩
  have sm := same_upd (o := .lst vs) R1.sub hp
  exact q1.2 _ ad1 _ _ (s1.trans sm) (R1.grow hp) (.lst (Rd.of upd_same) (dpAll_mono sm _ _ p1))
/-- a new list of one's own -/
def dFLst (r : DA) : DF := fun e Q => r e fun ds e1 => ds.length ≤ sizeLine ∧ Q (.lst ds) e1
theorem Rel.layOwn {K : PySem.W.Frag} {w : Wd} {F : Hp} {ad : Nat → Addr} {σ : L2.St} {H : Hp} {e : Env} {p : Addr} {o : HO} (R : Rel K w F ad σ H e) (h : H p = none) : Rel K w F ad σ (upd H p o) e ∧ Fresh w F ad e p := by
  have hn : ∀ b u, H b = some u → b ≠ p := fun b u q z => by subst z; rw [h] at q; cases q
  have up : ∀ b u, H b = some u → (upd H p o) b = some u := fun b u q => by rw [upd_ne (hn b u q)]; exact q
  refine ⟨⟨fun b u q => up b u (R.sub b u q), R.old, fun b u q => ?_, fun b u q1 q2 q3 => ?_, R.len, R.im, fun i ds q => ?_, fun i ds q => ?_, R.hbo, R.inj, R.nbo, R.ubo⟩, ⟨?_, ?_, fun i ds q z => ?_, fun hb z => ?_⟩⟩
  · obtain ⟨u', q'⟩ := R.dom b u q; exact ⟨u', up b u' q'⟩
  · obtain ⟨a1, a2⟩ := R.fr b u q1 q2 q3; exact ⟨up b u a1, a2⟩
  · obtain ⟨xs, a1, a2, a3⟩ := R.mu i ds q; exact ⟨xs, a1, up _ _ a2, a3⟩
  · obtain ⟨a0, xs, a1, a2, a3⟩ := R.bo i ds q; exact ⟨a0, xs, a1, up _ _ a2, a3⟩
  · cases z : F p with
    | none => rfl
    | some u => rw [R.sub p u z] at h; cases h
  · cases z : w.H0 p with
    | none => rfl
    | some u => obtain ⟨u', q'⟩ := R.dom p u z; rw [h] at q'; cases q'
  · obtain ⟨xs, _, a2, _⟩ := R.mu i ds q
    rw [z, h] at a2; cases a2
  · obtain ⟨_, u, q⟩ := R.hbo hb
    obtain ⟨u', q'⟩ := R.dom _ _ q
    rw [← z, h] at q'; cases q'
theorem df_lst (hr : DAr X es r) : DFe X (.List es pos) (dFLst r) := by
  refine ⟨fun w => PE.imp (pe_lst (hr.run w)) ?_, fun e Q Q' m q => hr.mono _ _ _ (fun ds e1 q1 => ⟨q1.1, m _ _ q1.2⟩) q⟩
  rintro σ H Q ⟨F, ad, e, R, q⟩
  refine ⟨F, ad, e, R, hr.mono _ _ _ (fun ds e1 q1 F1 ad1 H1 vs s1 R1 p1 => ⟨by rw [dpAll_len p1]; exact q1.1, fun p hp => ?_⟩) q⟩
  obtain ⟨R2, fr⟩ := R1.layOwn (o := .lst vs) hp
  exact q1.2 F1 ad1 _ p _ s1 R2 upd_same fr (.lst p1)

/-! ### subscripts -/
def itemsOf : D → Option (List D)
  | .list ds => some ds
  | .tuple ds => some ds
  | .dict [(.none, .list ds)] => some ds
  | _ => none
theorem items_of {K : PySem.W.Frag} {F : Hp} {v : V} {d : D} {ds : List D} (h : itemsOf d = some ds) (p : Dq K F v d) : ∃ a xs, v = .ref a ∧ (SqL K F a xs ∨ SqT K F a xs) ∧ DqAll K F xs ds := by
  unfold itemsOf at h
  split at h
  · cases h; obtain ⟨a, xs, e, h1, h2⟩ := dp_list p; exact ⟨a, xs, e, .inl h1, h2⟩
  · cases h; obtain ⟨a, xs, e, h1, h2⟩ := dp_tup p; exact ⟨a, xs, e, .inr h1, h2⟩
  · cases h; obtain ⟨a, xs, e, h1, h2⟩ := dp_scr p; exact ⟨a, xs, e, .inl h1, h2⟩
  · cases h
def gIx : G2 := fun d1 d2 P => match itemsOf d1, d2 with
  | some ds, .int k => match atI ds k with
    | some d => P d
    | none => False
  | _, _ => False
theorem atI_dp {K : PySem.W.Frag} {F : Hp} {xs : List V} {ds : List D} {k : Int} {d : D} (h : DqAll K F xs ds) (q : atI ds k = some d) : ∃ x, atI xs k = some x ∧ Dq K F x d := by
  unfold atI at q ⊢
  rw [dpAll_len h]
  cases z : ixN ds.length k with
  | none => rw [z] at q; cases q
  | some j =>
    rw [z] at q
    exact dpAll_got h q
theorem os_ix {K : PySem.W.Frag} : OpS K (rIx K) gIx := ⟨fun F H x y d1 d2 Q sm p1 p2 q => by
  unfold gIx at q
  split at q
  · rename_i ds k hi
    split at q
    · rename_i d z
      obtain ⟨a, xs, rfl, h1, h2⟩ := items_of hi p1
      obtain ⟨v, g1, g2⟩ := atI_dp h2 z
      rcases h1 with h1 | h1
      · exact .inl ⟨a, xs, k, v, rfl, dp_int p2, sm.seq h1, g1, q v g2⟩
      · exact .inr (.inl ⟨a, xs, k, v, rfl, dp_int p2, sqT_mono sm h1, g1, q v g2⟩)
    · exact q.elim
  · exact q.elim, fun d1 d2 P P' m q => by
  unfold gIx at q ⊢
  split at q
  · split at q
    · exact m _ q
    · exact q.elim
  · exact q.elim⟩
theorem de_ix (ha : DE X a f) (hb : DE X b h) (hs : PlainIx b) : DE X (.Subscript a b pos) (dBin gIx f h) :=
  ⟨fun w => PE.imp (pe_ix ix_seq (ha.run w) (hb.run w) hs) (bin_imp os_ix.op ha hb w), dBin_mono (os_ix (K := X.K)).mono ha hb⟩
/-- the items of what a slot holds -/
def slItems : Option Sl → Option (List D)
  | some (.im d) => itemsOf d
  | some (.mu (.lst ds)) => some ds
  | some (.bo (.lst ds)) => some ds
  | _ => none
theorem Rel.read {K : PySem.W.Frag} {w : Wd} {F : Hp} {ad : Nat → Addr} {σ : L2.St} {H : Hp} {e : Env} {i : Nat} {ds : List D} (R : Rel K w F ad σ H e) (q : slItems e[i]? = some ds) :
    ∃ p xs, σ[i]? = some (some (.ref p)) ∧ (SqL K H p xs ∨ SqT K H p xs) ∧ DqAll K F xs ds := by
  cases z : e[i]? with
  | none => rw [z] at q; cases q
  | some s =>
    rw [z] at q
    cases s with
    | un => cases q
    | im d =>
      obtain ⟨v, s1, s2⟩ := R.im i d z
      obtain ⟨a, xs, rfl, h1, h2⟩ := items_of q s2
      exact ⟨a, xs, s1, h1.imp (fun h => R.sub.seq h) (fun h => sqT_mono R.sub h), h2⟩
    | mu o =>
      cases o with
      | lst ds' =>
        cases q
        obtain ⟨ho, s1, s2, _, s4, _⟩ := R.mu i _ z
        obtain ⟨xs, rfl, s5⟩ := owr_lst s4
        exact ⟨_, xs, s1, .inl (SqL.of s2), s5⟩
      | _ => cases q
    | bo o =>
      cases o with
      | lst ds' =>
        cases q
        obtain ⟨_, ho, s1, s2, _, s4⟩ := R.bo i _ z
        obtain ⟨xs, rfl, s5⟩ := owr_lst s4
        exact ⟨_, xs, s1, .inl (SqL.of s2), s5⟩
      | _ => cases q
theorem Rel.has {K : PySem.W.Frag} {w : Wd} {F : Hp} {ad : Nat → Addr} {σ : L2.St} {H : Hp} {e : Env} {i : Nat} {ds : List D} (R : Rel K w F ad σ H e) (q : slItems e[i]? = some ds) : ∃ p, σ[i]? = some (some (.ref p)) := by
  obtain ⟨p, _, h, _⟩ := R.read q
  exact ⟨p, h⟩
/-- x[k], x a name: nothing is frozen -/
def dIxN (i : Nat) (h : DT) : DT := fun e Q => (∃ ds, slItems e[i]? = some ds) ∧ h e fun d e1 => match slItems e1[i]?, d with
  | some ds, .int k => match atI ds k with
    | some d => Q d e1
    | none => False
  | _, _ => False
theorem de_ixN (i : Nat) (ha : PE X a (tVar i)) (hb : DE X b h) (hs : PlainIx b) : DE X (.Subscript a b pos) (dIxN i h) := by
  refine ⟨fun w => PE.imp (pe_ix ix_seq ha (hb.run w) hs) ?_, fun e Q Q' m q => ⟨q.1, hb.mono _ _ _ (fun d e1 q1 => ?_) q.2⟩⟩
  · rintro σ H Q ⟨F, ad, e, R, ⟨ds0, q0⟩, q⟩
    obtain ⟨p, hp⟩ := R.has q0
    refine ⟨_, hp, F, ad, e, R, hb.mono _ _ _ (fun d e1 q1 F1 ad1 H1 v1 s1 R1 p1 => ?_) q⟩
    cases z : slItems e1[i]? with
    | none => rw [z] at q1; exact q1.elim
    | some ds =>
      rw [z] at q1
      cases d with
      | int k =>
        have q' : (match atI ds k with | some d => (∀ F' ad' H' v, Same F F' → Rel X.K w F' ad' σ H' e1 → Dq X.K F' v d → Q v H') | none => False) := q1
        cases zk : atI ds k with
        | none => rw [zk] at q'; exact q'.elim
        | some d =>
          rw [zk] at q'
          obtain ⟨p2, xs, g1, g2, g3⟩ := R1.read z
          rw [hp] at g1
          cases g1
          obtain ⟨v, g4, g5⟩ := atI_dp g3 zk
          have fin := q' F1 ad1 H1 v s1 R1 g5
          rcases g2 with g2 | g2
          · exact .inl ⟨p, xs, k, v, rfl, dp_int p1, g2, g4, fin⟩
          · exact .inr (.inl ⟨p, xs, k, v, rfl, dp_int p1, g2, g4, fin⟩)
      | _ => exact q1.elim
  · split at q1
    · split at q1
      · exact m _ _ q1
      · exact q1.elim
    · exact q1.elim

/-! ### calls of built-ins -/
abbrev G1 := List D → (D → Prop) → Prop
structure OpA (K : PySem.W.Frag) (r : List V → Hp → VK → Prop) (g : G1) : Prop where
  run : ∀ (F H : Hp) (xs : List V) (ds : List D) (Q : VK), Same F H → DqAll K F xs ds → g ds (fun d => ∀ v F' H', Grow F H F' H' → Dq K F' v d → Q v H') → r xs H Q
  mono : ∀ ds (P P' : D → Prop), (∀ d, P d → P' d) → g ds P → g ds P'
def dCallB (g : G1) (r : DA) : DT := fun e Q => r e fun ds e1 => g ds fun d => Q d e1
theorem callB_imp {rr : List V → Hp → VK → Prop} {g : G1} (hg : OpA X.K rr g) (hr : DAr X es r) (w : Wd) : ∀ σ H Q, EL X.K w (dCallB g r) σ H Q → tCB rr (AL X.K w r) σ H Q := by
  rintro σ H Q ⟨F, ad, e, R, q⟩
  refine ⟨F, ad, e, R, hr.mono _ _ _ (fun ds e1 q1 F1 ad1 H1 vs s1 R1 p1 => ?_) q⟩
  exact hg.run F1 H1 vs ds Q R1.sub p1 (hg.mono _ _ _ (fun d q2 v F2 H2 gr p2 => q2 F2 ad1 H2 v (s1.trans (gr.same R1.sub)) (gr.rel R1) p2) q1)
theorem dCallB_mono {g : G1} (hg : ∀ ds (P P' : D → Prop), (∀ d, P d → P' d) → g ds P → g ds P') (hr : DAr X es r) : ∀ e (Q Q' : D → Env → Prop), (∀ d e', Q d e' → Q' d e') → dCallB g r e Q → dCallB g r e Q' :=
  fun e Q Q' m q => hr.mono _ _ _ (fun ds e1 q1 => hg _ _ _ (fun d q2 => m _ _ q2) q1) q
theorem de_of_tCB {rr : List V → Hp → VK → Prop} {g : G1} (hg : OpA X.K rr g) (hr : DAr X es r) (hp : ∀ w, PE X x (tCB rr (AL X.K w r))) : DE X x (dCallB g r) :=
  ⟨fun w => PE.imp (hp w) (callB_imp hg hr w), dCallB_mono hg.mono hr⟩
/-- len(x), x a name -/
def dLenN (i : Nat) : DT := fun e Q => match slItems e[i]? with
  | some ds => Q (.int (ds.length : Nat)) e
  | none => False
theorem de_lenN (i : Nat) (hp : PE X x (tCB (fun xs H Q => ∃ p ys, xs = [.ref p] ∧ (SqL X.K H p ys ∨ SqT X.K H p ys) ∧ Q (.int ys.length) H) (tCons (tVar i) tNil))) : DE X x (dLenN i) := by
  refine ⟨fun w => PE.imp hp ?_, fun e Q Q' m q => ?_⟩
  · rintro σ H Q ⟨F, ad, e, R, q⟩
    unfold dLenN at q
    split at q
    · rename_i ds z
      obtain ⟨p, xs, g1, g2, g3⟩ := R.read z
      refine ⟨_, g1, p, xs, rfl, g2, ?_⟩
      rw [dpAll_len g3]
      exact q F ad H _ (Same.refl F) R (.int _)
    · exact q.elim
  · unfold dLenN at q ⊢
    split at q
    · exact m _ _ q
    · exact q.elim
def gLen : G1 := fun ds P => match ds with
  | [d] => match itemsOf d with
    | some es => P (.int (es.length : Nat))
    | none => False
  | _ => False
theorem oa_len {K : PySem.W.Frag} : OpA K (fun xs H Q => ∃ p ys, xs = [.ref p] ∧ (SqL K H p ys ∨ SqT K H p ys) ∧ Q (.int ys.length) H) gLen := ⟨fun F H xs ds Q sm p q => by
  match ds, p, q with
  | [d], .cons p .nil, q =>
    have q : (match itemsOf d with
      | some es => _
      | none => False) := q
    split at q
    · rename_i es hi
      obtain ⟨a, ys, rfl, h1, h2⟩ := items_of hi p
      exact ⟨a, ys, rfl, h1.imp (fun h => sm.seq h) (fun h => sqT_mono sm h), by rw [dpAll_len h2]; exact q _ F H Grow.refl (.int _)⟩
    · exact q.elim
  | [], _, q => exact q.elim
  | _ :: _ :: _, _, q => exact q.elim, fun ds P P' m q => by
  unfold gLen at q ⊢
  split at q
  · split at q
    · exact m _ q
    · exact q.elim
  · exact q.elim⟩
def gAbs : G1 := fun ds P => match ds with
  | [.int i] => P (.int (if i < 0 then -i else i))
  | _ => False
theorem oa_abs {K : PySem.W.Frag} : OpA K (fun xs H Q => ∃ i, xs = [.int i] ∧ Q (.int (if i < 0 then -i else i)) H) gAbs := ⟨fun F H xs ds Q sm p q => by
  unfold gAbs at q
  split at q
  · cases p with
    | cons p pn => cases pn; rw [dp_int p]; exact ⟨_, rfl, q _ F H Grow.refl (.int _)⟩
  · exact q.elim, fun ds P P' m q => by
  unfold gAbs at q ⊢
  split at q
  · exact m _ q
  · exact q.elim⟩
def gMax : G1 := fun ds P => match ds with
  | [.int i, .int j] => P (.int (if j > i then j else i))
  | _ => False
theorem oa_max {K : PySem.W.Frag} : OpA K (fun xs H Q => ∃ i j, xs = [.int i, .int j] ∧ Q (.int (if j > i then j else i)) H) gMax := ⟨fun F H xs ds Q sm p q => by
  unfold gMax at q
  split at q
  · cases p with
    | cons p pn =>
      cases pn with
      | cons p2 pn => cases pn; rw [dp_int p, dp_int p2]; exact ⟨_, _, rfl, q _ F H Grow.refl (.int _)⟩
  · exact q.elim, fun ds P P' m q => by
  unfold gMax at q ⊢
  split at q
  · exact m _ q
  · exact q.elim⟩
def gMin : G1 := fun ds P => match ds with
  | [.int i, .int j] => P (.int (if j < i then j else i))
  | _ => False
theorem oa_min {K : PySem.W.Frag} : OpA K (fun xs H Q => ∃ i j, xs = [.int i, .int j] ∧ Q (.int (if j < i then j else i)) H) gMin := ⟨fun F H xs ds Q sm p q => by
  unfold gMin at q
  split at q
  · cases p with
    | cons p pn =>
      cases pn with
      | cons p2 pn => cases pn; rw [dp_int p, dp_int p2]; exact ⟨_, _, rfl, q _ F H Grow.refl (.int _)⟩
  · exact q.elim, fun ds P P' m q => by
  unfold gMin at q ⊢
  split at q
  · exact m _ q
  · exact q.elim⟩
/-- int(n), int(a bool) -/
def gInt : G1 := fun ds P => match ds with
  | [.int i] => P (.int i)
  | [.bool k] => P (.int (if k then 1 else 0))
  | _ => False
theorem oa_int {K : PySem.W.Frag} : OpA K (fun xs H Q => (∃ i, xs = [.int i] ∧ Q (.int i) H) ∨ ∃ k, xs = [.bl k] ∧ Q (.int (if k then 1 else 0)) H) gInt := ⟨fun F H xs ds Q sm p q => by
  unfold gInt at q
  split at q
  · cases p with
    | cons p pn => cases pn; rw [dp_int p]; exact .inl ⟨_, rfl, q _ F H Grow.refl (.int _)⟩
  · cases p with
    | cons p pn => cases pn; rw [dp_bool p]; exact .inr ⟨_, rfl, q _ F H Grow.refl (.int _)⟩
  · exact q.elim, fun ds P P' m q => by
  unfold gInt at q ⊢
  split at q
  · exact m _ q
  · exact m _ q
  · exact q.elim⟩
/-- sum of a list of ints -/
def intsOf : List D → Option (List Int)
  | [] => some []
  | .int i :: r => (intsOf r).map (i :: ·)
  | _ => none
theorem intsOf_map : ∀ {ds : List D} {ns : List Int}, intsOf ds = some ns → ds = ns.map PyData.int
  | [], ns, h => by cases h; rfl
  | .int i :: r, ns, h => by
    unfold intsOf at h
    cases z : intsOf r with
    | none => rw [z] at h; cases h
    | some ms =>
      rw [z] at h
      cases h
      rw [intsOf_map z]; rfl
  | .none :: _, _, h => by cases h
  | .bool _ :: _, _, h => by cases h
  | .str _ :: _, _, h => by cases h
  | .list _ :: _, _, h => by cases h
  | .tuple _ :: _, _, h => by cases h
  | .dict _ :: _, _, h => by cases h
theorem intsOf_ints : ∀ ns : List Int, intsOf (ns.map PyData.int) = some ns
  | [] => rfl
  | n :: ns => by
    show (intsOf (ns.map PyData.int)).map (n :: ·) = _
    rw [intsOf_ints ns]; rfl
def gSum : G1 := fun ds P => match ds with
  | [.list es] => match intsOf es with
    | some ns => P (.int ns.sum)
    | none => False
  | _ => False
theorem oa_sum {K : PySem.W.Frag} : OpA K (rSum K) gSum := ⟨fun F H xs ds Q sm p q => by
  unfold gSum at q
  split at q
  · split at q
    · rename_i ns z
      cases p with
      | cons p pn =>
        cases pn
        obtain ⟨a, ys, rfl, h1, h2⟩ := dp_list p
        rw [intsOf_map z] at h2
        rw [dpAll_of_ints ns h2] at h1
        exact ⟨a, ns, rfl, sm.seq h1, q _ F H Grow.refl (.int _)⟩
    · exact q.elim
  · exact q.elim, fun ds P P' m q => by
  unfold gSum at q ⊢
  split at q
  · split at q
    · exact m _ q
    · exact q.elim
  · exact q.elim⟩
/-- all, any of a list of bools -/
def boolsOf : List D → Option (List Bool)
  | [] => some []
  | .bool i :: r => (boolsOf r).map (i :: ·)
  | _ => none
theorem boolsOf_map : ∀ {ds : List D} {ns : List Bool}, boolsOf ds = some ns → ds = ns.map PyData.bool
  | [], ns, h => by cases h; rfl
  | .bool i :: r, ns, h => by
    unfold boolsOf at h
    cases z : boolsOf r with
    | none => rw [z] at h; cases h
    | some ms =>
      rw [z] at h
      cases h
      rw [boolsOf_map z]; rfl
  | .none :: _, _, h => by cases h
  | .int _ :: _, _, h => by cases h
  | .str _ :: _, _, h => by cases h
  | .list _ :: _, _, h => by cases h
  | .tuple _ :: _, _, h => by cases h
  | .dict _ :: _, _, h => by cases h
theorem boolsOf_bools : ∀ ns : List Bool, boolsOf (ns.map PyData.bool) = some ns
  | [] => rfl
  | n :: ns => by
    show (boolsOf (ns.map PyData.bool)).map (n :: ·) = _
    rw [boolsOf_bools ns]; rfl
def gAll : G1 := fun ds P => match ds with
  | [.list es] => match boolsOf es with
    | some ns => P (.bool (ns.all id))
    | none => False
  | _ => False
theorem oa_all {K : PySem.W.Frag} : OpA K (rAll K) gAll := ⟨fun F H xs ds Q sm p q => by
  unfold gAll at q
  split at q
  · split at q
    · rename_i ns z
      cases p with
      | cons p pn =>
        cases pn
        obtain ⟨a, ys, rfl, h1, h2⟩ := dp_list p
        rw [boolsOf_map z] at h2
        rw [dpAll_of_bools ns h2] at h1
        exact ⟨a, ns, rfl, sm.seq h1, q _ F H Grow.refl (.bl _)⟩
    · exact q.elim
  · exact q.elim, fun ds P P' m q => by
  unfold gAll at q ⊢
  split at q
  · split at q
    · exact m _ q
    · exact q.elim
  · exact q.elim⟩
/-- tuple(x), list(x) -/
def gTuple : G1 := fun ds P => match ds with
  | [d] => match itemsOf d with
    | some es => P (.tuple es)
    | none => False
  | _ => False
theorem oa_tuple {K : PySem.W.Frag} : OpA K (fun xs H Q => ∃ p ys, xs = [.ref p] ∧ ((SqL K H p ys ∧ ∀ l, H l = none → Q (.ref l) (upd H l (.tup ys))) ∨ (SqT K H p ys ∧ Q (.ref p) H))) gTuple := ⟨fun F H xs ds Q sm p q => by
  match ds, p, q with
  | [d], .cons p .nil, q =>
    have q : (match itemsOf d with
      | some es => _
      | none => False) := q
    split at q
    · rename_i es hi
      obtain ⟨a, ys, rfl, h1, h2⟩ := items_of hi p
      rcases h1 with h1 | h1
      · refine ⟨a, ys, rfl, .inl ⟨sm.seq h1, fun l hl => ?_⟩⟩
        exact q _ _ _ (Grow.one (F := F) hl) (.tup (SqT.of upd_same) (dpAll_mono (same_upd sm hl) _ _ h2))
      · exact ⟨a, ys, rfl, .inr ⟨sqT_mono sm h1, q _ F H Grow.refl (.tup h1 h2)⟩⟩
    · exact q.elim
  | [], _, q => exact q.elim
  | _ :: _ :: _, _, q => exact q.elim, fun ds P P' m q => by
  unfold gTuple at q ⊢
  split at q
  · split at q
    · exact m _ q
    · exact q.elim
  · exact q.elim⟩
def gList : G1 := fun ds P => match ds with
  | [d] => match itemsOf d with
    | some es => P (.list es)
    | none => False
  | _ => False
theorem oa_list {K : PySem.W.Frag} : OpA K (fun xs H Q => ∃ p ys, xs = [.ref p] ∧ (SqL K H p ys ∨ SqT K H p ys) ∧ ∀ l, H l = none → Q (.ref l) (upd H l (.lst ys))) gList := ⟨fun F H xs ds Q sm p q => by
  match ds, p, q with
  | [d], .cons p .nil, q =>
    have q : (match itemsOf d with
      | some es => _
      | none => False) := q
    split at q
    · rename_i es hi
      obtain ⟨a, ys, rfl, h1, h2⟩ := items_of hi p
      refine ⟨a, ys, rfl, h1.imp (fun h => sm.seq h) (fun h => sqT_mono sm h), fun l hl => ?_⟩
      exact q _ _ _ (Grow.one (F := F) hl) (.lst (Rd.of upd_same) (dpAll_mono (same_upd sm hl) _ _ h2))
    · exact q.elim
  | [], _, q => exact q.elim
  | _ :: _ :: _, _, q => exact q.elim, fun ds P P' m q => by
  unfold gList at q ⊢
  split at q
  · split at q
    · exact m _ q
    · exact q.elim
  · exact q.elim⟩
end
end DL

/-! The D layer, part 3: lists, statements, loops. -/
namespace DL
open PySem PySem.Spec PyProof.Rows L2

section
variable {X : Cx} {x y a b c : Expr} {f g h : DT} {t u : DB} {pos : Pos}

/-! ### + and * of ints, lists, tuples -/
def rCatR : R2 := fun x y H Q => ∃ l m vs us, x = .ref l ∧ y = .ref m ∧ Rd H l (.lst vs) ∧ Rd H m (.lst us) ∧ vs.length + us.length ≤ sizeLine ∧ ∀ p, H p = none → Q (.ref p) (upd H p (.lst (vs ++ us)))
theorem rd_obj {pins : List (Addr × Obj)} {σ : L2.St} {H : Hp} {s : Shared} {l : Addr} {vs : List V} (I : Inv X pins σ H s) (h : Rd H l (.lst vs)) :
    ∃ (its : List Value) (n : Nat), Vals vs its ∧ vs.length = its.length ∧ s.heap.get? l = some { cls := .type "list", data := .seq its.toArray n } := by
  obtain ⟨_, its, n, r, e⟩ := h.ok I.hok
  exact ⟨its, n, r, r.length, e⟩
theorem op_catR : OpR X (binaryOp .Add) rCatR := by
  rintro pins s σ H x y v u Q I rx ry ⟨l, m, vs, us, rfl, rfl, h1, h2, hz, q⟩
  cases rx
  cases ry
  obtain ⟨i1, n1, r1, z1, e1⟩ := rd_obj I h1
  obtain ⟨i2, n2, r2, z2, e2⟩ := rd_obj I h2
  refine PySem.P.add_list e1 e2 ?_ (by rw [List.size_toArray, List.size_toArray]; omega)
  rw [show i1.toArray ++ i2.toArray = (i1 ++ i2).toArray by simp]
  exact ⟨.ref _, _, I.lnew (t' := s.toks) (r1.append r2) (by rw [List.length_append]; omega), rfl, q _ I.fresh⟩
def gAdd : G2 := fun d1 d2 P => match d1, d2 with
  | .int i, .int j => P (.int (i + j))
  | .list ds, .list es => ds.length + es.length ≤ sizeLine ∧ P (.list (ds ++ es))
  | .tuple ds, .tuple es => ds.length + es.length ≤ sizeLine ∧ P (.tuple (ds ++ es))
  | _, _ => False
def rAddA (K : PySem.W.Frag) : R2 := fun x y H Q => (rI0 fun i j => .int (i + j)) x y H Q ∨ (rCatR x y H Q ∨ rCatA K x y H Q)
theorem op_addA : OpR X (binaryOp .Add) (rAddA X.K) := OpR.or op_add (OpR.or op_catR op_catA)
theorem od_add {K : PySem.W.Frag} : OpD K (rAddA K) gAdd := ⟨fun F H x y d1 d2 Q sm p1 p2 q => by
  unfold gAdd at q
  split at q
  · exact .inl ⟨_, _, dp_int p1, dp_int p2, q _ F H Grow.refl (.int _)⟩
  · obtain ⟨l, vs, rfl, h1, k1⟩ := dp_listR p1
    obtain ⟨m, us, rfl, h2, k2⟩ := dp_listR p2
    refine .inr (.inl ⟨l, m, vs, us, rfl, rfl, rd_mono sm h1, rd_mono sm h2, by rw [dpAll_len k1, dpAll_len k2]; exact q.1, fun p hp => ?_⟩)
    exact q.2 _ _ _ (Grow.one (F := F) hp) (.lst (Rd.of upd_same) (dpAll_mono (same_upd sm hp) _ _ (dpAll_app k1 k2)))
  · obtain ⟨l, vs, rfl, h1, k1⟩ := dp_tup p1
    obtain ⟨m, us, rfl, h2, k2⟩ := dp_tup p2
    refine .inr (.inr ⟨l, m, vs, us, rfl, rfl, sqT_mono sm h1, sqT_mono sm h2, by rw [dpAll_len k1, dpAll_len k2]; exact q.1, fun z => ?_, fun z z' => ?_, fun z z' p hp => ?_⟩)
    · subst z
      cases k1
      exact q.2 _ F H Grow.refl (.tup h2 k2)
    · subst z'
      cases k2
      have q2 := q.2 (.ref l) F H Grow.refl
      rw [List.append_nil] at q2
      exact q2 (.tup h1 k1)
    · exact q.2 _ _ _ (Grow.one (F := F) hp) (.tup (SqT.of upd_same) (dpAll_mono (same_upd sm hp) _ _ (dpAll_app k1 k2)))
  · exact q.elim, fun d1 d2 P P' m q => by
  unfold gAdd at q ⊢
  split at q
  · exact m _ q
  · exact ⟨q.1, m _ q.2⟩
  · exact ⟨q.1, m _ q.2⟩
  · exact q.elim⟩
/-- a list times a number: lists that stand by themselves -/
def rRepR : R2 := fun x y H Q => ∃ l k vs, x = .ref l ∧ y = .int k ∧ H l = some (.lst vs) ∧ -(2 ^ 63) ≤ k ∧ k < 2 ^ 63 ∧ vs.length * k.toNat ≤ sizeLine ∧
  ∀ p, H p = none → Q (.ref p) (upd H p (.lst (List.replicate k.toNat vs).flatten))
theorem op_repR : OpR X (binaryOp .Mult) rRepR := op_rep

/-! ### statements -/
def dPass : DSt := fun D e => D.nx e
theorem endL_le {K : PySem.W.Frag} {w : Wd} {A B : Ends} (h1 : ∀ σ H, A.nx σ H → B.nx σ H) (h2 : ∀ v H, A.rt v H → B.rt v H) (h3 : ∀ σ H, A.bk σ H → B.bk σ H) (h4 : ∀ σ H, A.ct σ H → B.ct σ H) : (endL K w A).le (endL K w B) where
  nx := fun e q F' ad' σ' H' R => h1 _ _ (q F' ad' σ' H' R)
  rt := fun d e q F' ad' σ' H' v R p => h2 _ _ (q F' ad' σ' H' v R p)
  rf := fun d e q F' ad' σ' H' a xs R z f p => h2 _ _ (q F' ad' σ' H' a xs R z f p)
  bk := fun e q F' ad' σ' H' R => h3 _ _ (q F' ad' σ' H' R)
  ct := fun e q F' ad' σ' H' R => h4 _ _ (q F' ad' σ' H' R)
theorem DEnds.le.refl (A : DEnds) : A.le A := ⟨fun _ q => q, fun _ _ q => q, fun _ _ q => q, fun _ q => q, fun _ q => q⟩
variable {st : Stmt} {rest sa sb : List Stmt} {ts us : DSt}
def dSeq (t u : DSt) : DSt := fun D e => t { D with nx := u D } e
theorem dss_nil : DSs X [] dPass := ⟨fun w => PSs.imp pss_nil fun D σ H ⟨F, ad, e, R, q⟩ => q F ad σ H R, fun A B e l q => l.nx e q⟩
theorem dss_cons (h1 : DS X st ts) (h2 : DSs X rest us) : DSs X (st :: rest) (dSeq ts us) := by
  refine ⟨fun w => PSs.imp (pss_cons (h1.run w) (h2.run w)) ?_, fun A B e l q => h1.mono { A with nx := us A } { B with nx := us B } _ ⟨fun e' q' => h2.mono _ _ _ l q', l.rt, l.rf, l.bk, l.ct⟩ q⟩
  rintro D σ H ⟨F, ad, e, R, q⟩
  exact ⟨F, ad, e, R, h1.mono { endL X.K w D with nx := us (endL X.K w D) } _ _ ⟨fun e' q' F' ad' σ' H' R' => ⟨F', ad', e', R', q'⟩, fun _ _ q => q, fun _ _ q => q, fun _ q => q, fun _ q => q⟩ q⟩
theorem dss_one (h1 : DS X st ts) : DSs X [st] ts := ⟨fun w => pss_one (h1.run w), h1.mono⟩
theorem ds_pass : DS X (.Pass pos) dPass := ⟨fun w => PS.imp ps_pass fun D σ H ⟨F, ad, e, R, q⟩ => q F ad σ H R, fun A B e l q => l.nx e q⟩
def dBreak : DSt := fun D e => D.bk e
def dCont : DSt := fun D e => D.ct e
theorem ds_break : DS X (.Break pos) dBreak := ⟨fun w => PS.imp ps_break fun D σ H ⟨F, ad, e, R, q⟩ => q F ad σ H R, fun A B e l q => l.bk e q⟩
theorem ds_cont : DS X (.Continue pos) dCont := ⟨fun w => PS.imp ps_continue fun D σ H ⟨F, ad, e, R, q⟩ => q F ad σ H R, fun A B e l q => l.ct e q⟩
def dDrop (f : DT) : DSt := fun D e => f e fun _ e' => D.nx e'
theorem ds_expr (ha : DE X a f) (hs : swapsWith a none pos.line X.env = pure false := by rfl) : DS X (.Expr a pos) (dDrop f) := by
  refine ⟨fun w => PS.imp (ps_expr (ha.run w) hs) ?_, fun A B e l q => ha.mono _ _ _ (fun d e' q' => l.nx e' q') q⟩
  rintro D σ H ⟨F, ad, e, R, q⟩
  exact ⟨F, ad, e, R, ha.mono _ _ _ (fun d e' q' F' ad' H' v s' R' p => q' F' ad' σ H' R') q⟩
def dRet (f : DT) : DSt := fun D e => f e D.rt
theorem ds_ret (ha : DE X a f) : DS X (.Return (some a) pos) (dRet f) := by
  refine ⟨fun w => PS.imp (ps_ret (ha.run w)) ?_, fun A B e l q => ha.mono _ _ _ l.rt q⟩
  rintro D σ H ⟨F, ad, e, R, q⟩
  exact ⟨F, ad, e, R, ha.mono _ _ _ (fun d e' q' F' ad' H' v s' R' p => q' F' ad' σ H' v R' p) q⟩
def dRetF (f : DF) : DSt := fun D e => f e D.rf
theorem ds_retF {f : DF} (ha : DFe X a f) : DS X (.Return (some a) pos) (dRetF f) := by
  refine ⟨fun w => PS.imp (ps_ret (ha.run w)) ?_, fun A B e l q => ha.mono _ _ _ l.rf q⟩
  rintro D σ H ⟨F, ad, e, R, q⟩
  exact ⟨F, ad, e, R, ha.mono _ _ _ (fun d e' q' F' ad' H' a xs s' R' z fr p => q' F' ad' σ H' a xs R' z fr p) q⟩
def dRetN : DSt := fun D e => D.rt .none e
theorem ds_retN : DS X (.Return none pos) dRetN := ⟨fun w => PS.imp ps_retN fun D σ H ⟨F, ad, e, R, q⟩ => q F ad σ H _ R .non, fun A B e l q => l.rt _ e q⟩
def dIfS (t : DB) (a b : DSt) : DSt := fun D e => t e fun k e' => if k = true then a D e' else b D e'
theorem ds_if (hc : DTe X c t) (ha : DSs X sa ts) (hb : DSs X sb us) : DS X (.If c sa sb pos) (dIfS t ts us) := by
  refine ⟨fun w => PS.imp (ps_if (hc.run w) (ha.run w) (hb.run w)) ?_, fun A B e l q => hc.mono _ _ _ (fun k e' q' => ?_) q⟩
  · rintro D σ H ⟨F, ad, e, R, q⟩
    refine ⟨F, ad, e, R, hc.mono _ _ _ (fun k e' q' F' ad' H' s' R' => ?_) q⟩
    cases k with
    | true => rw [if_pos rfl] at q' ⊢; exact ⟨F', ad', e', R', q'⟩
    | false => rw [if_neg Bool.false_ne_true] at q' ⊢; exact ⟨F', ad', e', R', q'⟩
  · cases k with
    | true => rw [if_pos rfl] at q' ⊢; exact ha.mono _ _ _ l q'
    | false => rw [if_neg Bool.false_ne_true] at q' ⊢; exact hb.mono _ _ _ l q'
def dNever : DSt := fun _ _ => False
theorem ds_never : DS X st dNever := ⟨fun w => PS.imp ps_never fun D σ H ⟨F, ad, e, R, q⟩ => q, fun A B e l q => q⟩
theorem dss_never {sts : List Stmt} : DSs X sts dNever := ⟨fun w => PSs.imp pss_never fun D σ H ⟨F, ad, e, R, q⟩ => q, fun A B e l q => q⟩
theorem ds_doc {z j pos'} : DS X (.Expr (.Constant (.str z) j pos) pos') dPass := ⟨fun w => PS.imp ps_doc fun D σ H ⟨F, ad, e, R, q⟩ => q F ad σ H R, fun A B e l q => l.nx e q⟩

/-! ### targets and stores -/
def dgName (i : Nat) : DTg := fun d e Q => Q (e.set i (.im d))
theorem dg_name {i : Nat} (hp : PG X x (gName i)) : DG X x (dgName i) := by
  refine ⟨fun w => PG.imp hp ?_, fun d e Q Q' m q => m _ q⟩
  rintro v σ H Q ⟨F, ad, e, d, R, p, q⟩
  exact q F ad _ H (Same.refl F) (R.set p)
def dgNil : DTgs := fun ds e Q => ds = [] ∧ Q e
def dgCons (g : DTg) (r : DTgs) : DTgs := fun ds e Q => match ds with
  | d :: es => g d e fun e' => r es e' Q
  | [] => False
theorem dgs_nil : DGs X [] dgNil := by
  refine ⟨fun w => PGs.imp pgs_nil ?_, fun d e Q Q' m q => ⟨q.1, m _ q.2⟩⟩
  rintro vs σ H Q ⟨F, ad, e, ds, R, p, q1, q2⟩
  subst q1
  cases p
  exact ⟨rfl, q2 F ad σ H (Same.refl F) R⟩
theorem dgs_cons {xs : List Expr} {gg : DTg} {r : DTgs} (h1 : DG X x gg) (h2 : DGs X xs r)
    (hs : (assignEach (x :: xs) X.env).map (·.2) = assign x X.env :: (assignEach xs X.env).map (·.2) := by rfl) : DGs X (x :: xs) (dgCons gg r) := by
  refine ⟨fun w => PGs.imp (pgs_cons (h1.run w) (h2.run w) hs) ?_, fun ds e Q Q' m q => ?_⟩
  · rintro vs σ H Q ⟨F, ad, e, ds, R, p, q⟩
    cases p with
    | nil => exact q.elim
    | cons p1 p2 =>
      refine ⟨_, _, rfl, F, ad, e, _, R, p1, h1.mono _ _ _ _ (fun e1 q1 F1 ad1 σ1 H1 s1 R1 => ?_) q⟩
      exact ⟨F1, ad1, e1, _, R1, dpAll_mono s1 _ _ p2, h2.mono _ _ _ _ (fun e2 q2 F2 ad2 σ2 H2 s2 R2 => q2 F2 ad2 σ2 H2 (s1.trans s2) R2) q1⟩
  · cases ds with
    | nil => exact q.elim
    | cons d es => exact h1.mono _ _ _ _ (fun e1 q1 => h2.mono _ _ _ _ m q1) q
def dgTup (n : Nat) (r : DTgs) : DTg := fun d e Q => match d with
  | .tuple ds => ds.length = n ∧ r ds e Q
  | _ => False
theorem dg_tup {xs : List Expr} {k : Nat} {r : DTgs} {n : Nat} (hc : X.calm = true) (h1 : DGs X xs r) (hn : (assignEach xs X.env).length = n := by rfl) (hst : (assignEach xs X.env).findIdx? (·.1) = none := by rfl) : DG X (.Tuple xs k pos) (dgTup n r) := by
  refine ⟨fun w => PG.imp (pg_tup hc (h1.run w) hn hst) ?_, fun d e Q Q' m q => ?_⟩
  · rintro v σ H Q ⟨F, ad, e, d, R, p, q⟩
    cases d with
    | tuple ds =>
      obtain ⟨a, vs, rfl, t1, t2⟩ := dp_tup p
      exact ⟨a, vs, rfl, sqT_mono R.sub t1, by rw [dpAll_len t2]; exact q.1, F, ad, e, ds, R, t2, q.2⟩
    | _ => exact q.elim
  · cases d with
    | tuple ds => exact ⟨q.1, h1.mono _ _ _ _ m q.2⟩
    | _ => exact q.elim
def dgLst (n : Nat) (r : DTgs) : DTg := fun d e Q => match d with
  | .list ds => ds.length = n ∧ r ds e Q
  | _ => False
theorem dg_lst {xs : List Expr} {k : Nat} {r : DTgs} {n : Nat} (hc : X.calm = true) (h1 : DGs X xs r) (hn : (assignEach xs X.env).length = n := by rfl) (hst : (assignEach xs X.env).findIdx? (·.1) = none := by rfl) : DG X (.Tuple xs k pos) (dgLst n r) := by
  refine ⟨fun w => PG.imp (pg_lst hc (h1.run w) hn hst) ?_, fun d e Q Q' m q => ?_⟩
  · rintro v σ H Q ⟨F, ad, e, d, R, p, q⟩
    cases d with
    | list ds =>
      obtain ⟨a, vs, rfl, t1, t2⟩ := dp_list p
      exact ⟨a, vs, rfl, R.sub.seq t1, by rw [dpAll_len t2]; exact q.1, F, ad, e, ds, R, t2, q.2⟩
    | _ => exact q.elim
  · cases d with
    | list ds => exact ⟨q.1, h1.mono _ _ _ _ m q.2⟩
    | _ => exact q.elim
def dAsg (f : DT) (gg : DTg) : DSt := fun D e => f e fun d e1 => gg d e1 D.nx
theorem asg_imp {gg : DTg} {tg : Expr} (ha : DE X a f) (hg : DG X tg gg) (w : Wd) : ∀ D σ H, SL X.K w (dAsg f gg) D σ H → tAsg (EL X.K w f) (GL X.K w gg) D σ H := by
  rintro D σ H ⟨F, ad, e, R, q⟩
  refine ⟨F, ad, e, R, ha.mono _ _ _ (fun d e1 q1 F1 ad1 H1 v s1 R1 p => ?_) q⟩
  exact ⟨F1, ad1, e1, d, R1, p, hg.mono _ _ _ _ (fun e2 q2 F2 ad2 σ2 H2 s2 R2 => q2 F2 ad2 σ2 H2 R2) q1⟩
theorem ds_asg {gg : DTg} {tg : Expr} (ha : DE X a f) (hg : DG X tg gg) (hs : swapsWithSole [tg] a pos.line X.env = pure false := by rfl) (hw : swappedStores [tg] a X.env = pure none := by rfl)
    (h1 : (assignEach [tg] X.env).map (·.2) = [assign tg X.env] := by rfl) : DS X (.Assign [tg] a pos) (dAsg f gg) :=
  ⟨fun w => PS.imp (ps_asg (ha.run w) (hg.run w) hs hw h1) (asg_imp ha hg w), fun A B e l q => ha.mono _ _ _ (fun d e1 q1 => hg.mono _ _ _ _ l.nx q1) q⟩
/-- name = value -/
theorem ds_set {i : Nat} {z : Str} {pos' : Pos} (hN : X.N.Nodup) (hi : X.N[i]? = some z) (hx : Loc X.env.scope z) (ha : DE X a f) (hs : swapsWith a (some (.Name z pos')) pos.line X.env = pure false := by rfl)
    (hf : X.fn z = true ∨ X.env.scope.names.lookup z = some .local := by first | exact .inl rfl | exact .inr rfl | assumption) : DS X (.Assign [.Name z pos'] a pos) (dAsg f (dgName i)) := by
  refine ⟨fun w => PS.imp (ps_set hN hi hx (ha.run w) hs hf) ?_, fun A B e l q => ha.mono _ _ _ (fun d e1 q1 => l.nx _ q1) q⟩
  rintro D σ H ⟨F, ad, e, R, q⟩
  exact ⟨F, ad, e, R, ha.mono _ _ _ (fun d e1 q1 F1 ad1 H1 v s1 R1 p => q1 F1 ad1 _ H1 (R1.set p)) q⟩
/-- name = a list of its own -/
def dAsgF (f : DF) (i : Nat) : DSt := fun D e => f e fun ds e1 => D.nx (e1.set i (.mu ds))
theorem ds_setF {f : DF} {i : Nat} {z : Str} {pos' : Pos} (hN : X.N.Nodup) (hi : X.N[i]? = some z) (hx : Loc X.env.scope z) (ha : DFe X a f) (hs : swapsWith a (some (.Name z pos')) pos.line X.env = pure false := by rfl)
    (hf : X.fn z = true ∨ X.env.scope.names.lookup z = some .local := by first | exact .inl rfl | exact .inr rfl | assumption) : DS X (.Assign [.Name z pos'] a pos) (dAsgF f i) := by
  refine ⟨fun w => PS.imp (ps_set hN hi hx (ha.run w) hs hf) ?_, fun A B e l q => ha.mono _ _ _ (fun d e1 q1 => l.nx _ q1) q⟩
  rintro D σ H ⟨F, ad, e, R, q⟩
  exact ⟨F, ad, e, R, ha.mono _ _ _ (fun d e1 q1 F1 ad1 H1 l xs s1 R1 z fr p => q1 F1 _ _ H1 (R1.setMu z fr p)) q⟩
/-- a, b = x, y; a, b, c = x, y, z -/
def dPar (i j : Nat) (r : DA) : DSt := fun D e => r e fun ds e1 => match ds with
  | [d1, d2] => D.nx ((e1.set i (.im d1)).set j (.im d2))
  | _ => False
theorem ds_par {i j : Nat} {r : DA} {es : List Expr} (hr : DAr X es r) (hp : ∀ ta, PA X es ta → PS X st (tPar i j ta)) : DS X st (dPar i j r) := by
  refine ⟨fun w => PS.imp (hp _ (hr.run w)) ?_, fun A B e l q => hr.mono _ _ _ (fun ds e1 q1 => ?_) q⟩
  · rintro D σ H ⟨F, ad, e, R, q⟩
    refine ⟨F, ad, e, R, hr.mono _ _ _ (fun ds e1 q1 F1 ad1 H1 vs s1 R1 p => ?_) q⟩
    match ds, p, q1 with
    | [d1, d2], .cons p1 (.cons p2 .nil), q1 => exact ⟨_, _, rfl, q1 F1 ad1 _ H1 ((R1.set p1).set p2)⟩
    | [], _, q1 => exact q1.elim
    | [_], _, q1 => exact q1.elim
    | _ :: _ :: _ :: _, _, q1 => exact q1.elim
  · match ds, q1 with
    | [d1, d2], q1 => exact l.nx _ q1
    | [], q1 => exact q1.elim
    | [_], q1 => exact q1.elim
    | _ :: _ :: _ :: _, q1 => exact q1.elim
def dPar3 (i j k : Nat) (r : DA) : DSt := fun D e => r e fun ds e1 => match ds with
  | [d1, d2, d3] => D.nx (((e1.set i (.im d1)).set j (.im d2)).set k (.im d3))
  | _ => False
theorem ds_par3 {i j k : Nat} {r : DA} {es : List Expr} (hr : DAr X es r) (hp : ∀ ta, PA X es ta → PS X st (tPar3 i j k ta)) : DS X st (dPar3 i j k r) := by
  refine ⟨fun w => PS.imp (hp _ (hr.run w)) ?_, fun A B e l q => hr.mono _ _ _ (fun ds e1 q1 => ?_) q⟩
  · rintro D σ H ⟨F, ad, e, R, q⟩
    refine ⟨F, ad, e, R, hr.mono _ _ _ (fun ds e1 q1 F1 ad1 H1 vs s1 R1 p => ?_) q⟩
    match ds, p, q1 with
    | [d1, d2, d3], .cons p1 (.cons p2 (.cons p3 .nil)), q1 => exact ⟨_, _, _, rfl, q1 F1 ad1 _ H1 (((R1.set p1).set p2).set p3)⟩
    | [], _, q1 => exact q1.elim
    | [_], _, q1 => exact q1.elim
    | [_, _], _, q1 => exact q1.elim
    | _ :: _ :: _ :: _ :: _, _, q1 => exact q1.elim
  · match ds, q1 with
    | [d1, d2, d3], q1 => exact l.nx _ q1
    | [], q1 => exact q1.elim
    | [_], q1 => exact q1.elim
    | [_, _], q1 => exact q1.elim
    | _ :: _ :: _ :: _ :: _, q1 => exact q1.elim
/-- name op= e -/
def dAug (i : Nat) (g : G2) (f : DT) : DSt := fun D e => match e[i]? with
  | some (.im d1) => f e fun d2 e1 => g d1 d2 fun d => D.nx (e1.set i (.im d))
  | _ => False
theorem ds_aug {i : Nat} {z : Str} {op : Operator} {r : R2} {g : G2} {pos' : Pos} (hN : X.N.Nodup) (hi : X.N[i]? = some z) (hx : Loc X.env.scope z) (ha : DE X a f) (ho : OpR X (inplaceOp op) r) (hg : OpD X.K r g)
    (hf : X.fn z = true ∨ X.env.scope.names.lookup z = some .local := by first | exact .inl rfl | exact .inr rfl | assumption) : DS X (.AugAssign (.Name z pos') op a pos) (dAug i g f) := by
  refine ⟨fun w => PS.imp (ps_aug (ti := r) hN hi hx (ha.run w) ho hf) ?_, fun A B e l q => ?_⟩
  · rintro D σ H ⟨F, ad, e, R, q⟩
    unfold dAug at q
    split at q
    · rename_i d1 he
      obtain ⟨v1, h1, p1⟩ := R.im i d1 he
      refine ⟨v1, h1, F, ad, e, R, ha.mono _ _ _ (fun d2 e1 q1 F1 ad1 H1 v2 s1 R1 p2 => ?_) q⟩
      refine hg.run F1 H1 v1 v2 d1 d2 _ R1.sub (dp_mono s1 _ _ p1) p2 (hg.mono _ _ _ _ (fun d q2 v F2 H2 gr p => ?_) q1)
      exact q2 F2 ad1 _ H2 ((gr.rel R1).set p)
    · exact q.elim
  · unfold dAug at q ⊢
    split at q
    · exact ha.mono _ _ _ (fun d2 e1 q1 => hg.mono _ _ _ _ (fun d q2 => l.nx _ q2) q1) q
    · exact q.elim

/-! ### lists of one's own, changed -/
/-- what a slot owns is replaced in place -/
def slPut : Option Sl → Ow → Option Sl
  | some (.mu _), ds => some (.mu ds)
  | some (.bo _), ds => some (.bo ds)
  | _, _ => none
def slOwn : Option Sl → Option Ow
  | some (.mu ds) => some ds
  | some (.bo ds) => some ds
  | _ => none
theorem Rel.owned {K : PySem.W.Frag} {w : Wd} {F : Hp} {ad : Nat → Addr} {σ : L2.St} {H : Hp} {e : Env} {i : Nat} {o : Ow} (R : Rel K w F ad σ H e) (q : slOwn e[i]? = some o) :
    ∃ p ho, σ[i]? = some (some (.ref p)) ∧ H p = some ho ∧ OwR K F p ho o ∧ F p = none ∧
      ∀ ho' o', OwR K F p ho' o' → ∃ s, slPut e[i]? o' = some s ∧ Rel K w F ad σ (upd H p ho') (e.set i s) := by
  cases z : e[i]? with
  | none => rw [z] at q; cases q
  | some s =>
    rw [z] at q
    cases s with
    | un => cases q
    | im d => cases q
    | mu ds' =>
      cases q
      obtain ⟨xs, s1, s2, s3, s4, _⟩ := R.mu i _ z
      exact ⟨_, xs, s1, s2, s4, s3, fun ys es p => ⟨_, rfl, R.mutate z p⟩⟩
    | bo ds' =>
      cases q
      obtain ⟨_, xs, s1, s2, s3, s4⟩ := R.bo i _ z
      exact ⟨_, xs, s1, s2, s4, s3, fun ys es p => ⟨_, rfl, R.mutateBo z p⟩⟩
/-- .. a list -/
def slLst (z : Option Sl) : Option (List D) := match slOwn z with
  | some (.lst ds) => some ds
  | _ => none
theorem slLst_own {z : Option Sl} {ds : List D} (h : slLst z = some ds) : slOwn z = some (.lst ds) := by
  unfold slLst at h
  split at h
  · rename_i e; cases h; exact e
  · cases h
theorem Rel.ownedL {K : PySem.W.Frag} {w : Wd} {F : Hp} {ad : Nat → Addr} {σ : L2.St} {H : Hp} {e : Env} {i : Nat} {ds : List D} (R : Rel K w F ad σ H e) (q : slLst e[i]? = some ds) :
    ∃ p xs, σ[i]? = some (some (.ref p)) ∧ H p = some (.lst xs) ∧ DqAll K F xs ds ∧ F p = none ∧
      ∀ ys es, DqAll K F ys es → ∃ s, slPut e[i]? (.lst es) = some s ∧ Rel K w F ad σ (upd H p (.lst ys)) (e.set i s) := by
  obtain ⟨p, ho, h1, h2, h3, h4, up⟩ := R.owned (slLst_own q)
  obtain ⟨xs, rfl, h5⟩ := owr_lst h3
  exact ⟨p, xs, h1, h2, h5, h4, fun ys es h => up _ _ (.lst h)⟩
/-- x.append(e), x a name -/
def dAppend (i : Nat) (f : DT) : DSt := fun D e => (∃ ds, slLst e[i]? = some ds) ∧ f e fun d e1 => match slLst e1[i]? with
  | some ds => ds.length < sizeLine ∧ ∀ s, slPut e1[i]? (.lst (ds ++ [d])) = some s → D.nx (e1.set i s)
  | none => False
theorem ds_append {i : Nat} (ha : DE X a f) (hp : ∀ t, PA X [a] t → PS X st (tDrop (tBM X.K "list" rAppend (tVar i) t))) (hs : starEach [a] X.env = (false, eval a X.env) :: starEach [] X.env := by rfl) : DS X st (dAppend i f) := by
  refine ⟨fun w => PS.imp (hp _ (pa_cons (ha.run w) pa_nil hs)) ?_, fun A B e l q => ⟨q.1, ha.mono _ _ _ (fun d e1 q1 => ?_) q.2⟩⟩
  · rintro D σ H ⟨F, ad, e, R, ⟨ds0, q0⟩, q⟩
    obtain ⟨p, xs0, h0, h1, _⟩ := R.ownedL q0
    refine ⟨_, h0, .inl ⟨rfl, _, SqL.of h1⟩, F, ad, e, R, ha.mono _ _ _ (fun d e1 q1 F1 ad1 H1 v s1 R1 p1 => ?_) q⟩
    cases z : slLst e1[i]? with
    | none => rw [z] at q1; exact q1.elim
    | some ds =>
      rw [z] at q1
      obtain ⟨p2, xs, h2, h3, h4, _, up⟩ := R1.ownedL z
      rw [h0] at h2
      cases h2
      obtain ⟨s, hs, R2⟩ := up (xs ++ [v]) (ds ++ [d]) (dpAll_app h4 (.cons p1 .nil))
      exact ⟨p, xs, v, rfl, rfl, h3, by rw [dpAll_len h4]; exact q1.1, q1.2 s hs F1 ad1 σ _ R2⟩
  · cases z : slLst e1[i]? with
    | none => rw [z] at q1; exact q1.elim
    | some ds => rw [z] at q1; exact ⟨q1.1, fun s hs => l.nx _ (q1.2 s hs)⟩
/-- x[k] = e, x a name -/
def dSetIx (i : Nat) (k f : DT) : DSt := fun D e => f e fun d e1 => (∃ ds, slLst e1[i]? = some ds) ∧ k e1 fun dk e2 => match dk, slLst e2[i]? with
  | .int n, some ds => match ixN ds.length n with
    | some j => ∀ s, slPut e2[i]? (.lst (ds.set j d)) = some s → D.nx (e2.set i s)
    | none => False
  | _, _ => False
theorem ds_setIx {i : Nat} {k : DT} (ha : DE X a f) (hk : DE X b k) (hp : ∀ te tk, PE X a te → PE X b tk → PS X st (tAsg te (gSub (tVar i) tk rSetL))) : DS X st (dSetIx i k f) := by
  refine ⟨fun w => PS.imp (hp _ _ (ha.run w) (hk.run w)) ?_, fun A B e l q => ha.mono _ _ _ (fun d e1 q1 => ⟨q1.1, hk.mono _ _ _ (fun dk e2 q2 => ?_) q1.2⟩) q⟩
  · rintro D σ H ⟨F, ad, e, R, q⟩
    refine ⟨F, ad, e, R, ha.mono _ _ _ (fun d e1 q1 F1 ad1 H1 v s1 R1 p1 => ?_) q⟩
    obtain ⟨⟨ds0, q0⟩, q1⟩ := q1
    obtain ⟨p, xs0, h0, _⟩ := R1.ownedL q0
    refine ⟨_, h0, F1, ad1, e1, R1, hk.mono _ _ _ (fun dk e2 q2 F2 ad2 H2 vk s2 R2 p2 => ?_) q1⟩
    cases dk with
    | int n =>
      cases z : slLst e2[i]? with
      | none => rw [z] at q2; exact q2.elim
      | some ds =>
        rw [z] at q2
        obtain ⟨p3, xs, h3, h4, h5, _, up⟩ := R2.ownedL z
        rw [h0] at h3
        cases h3
        have q3 : (match ixN ds.length n with | some j => ∀ s, slPut e2[i]? (.lst (ds.set j d)) = some s → (endL X.K w D).nx (e2.set i s) | none => False) := q2
        cases zj : ixN ds.length n with
        | none => rw [zj] at q3; exact q3.elim
        | some j =>
          rw [zj] at q3
          obtain ⟨s, hs, R3⟩ := up (xs.set j v) (ds.set j d) (dpAll_set j (dp_mono s2 _ _ p1) h5)
          exact ⟨p, xs, n, j, rfl, dp_int p2, h4, by rw [dpAll_len h5]; exact zj, q3 s hs F2 ad2 σ _ R3⟩
    | _ => exact q2.elim
  · cases dk with
    | int n =>
      cases z : slLst e2[i]? with
      | none => rw [z] at q2; exact q2.elim
      | some ds =>
        rw [z] at q2
        have q3 : (match ixN ds.length n with | some j => ∀ s, slPut e2[i]? (.lst (ds.set j d)) = some s → A.nx (e2.set i s) | none => False) := q2
        show (match ixN ds.length n with | some j => ∀ s, slPut e2[i]? (.lst (ds.set j d)) = some s → B.nx (e2.set i s) | none => False)
        cases zj : ixN ds.length n with
        | none => rw [zj] at q3; exact q3.elim
        | some j => rw [zj] at q3; exact fun s hs => l.nx _ (q3 s hs)
    | _ => exact q2.elim

/-! ### while -/
def dWhile (c : DB) (b : DSt) : DSt := fun D e => ∃ W : Nat → Env → Prop, (∃ m, W m e) ∧ ∀ m e, W m e → c e fun k e1 => if k = true then b { D with nx := fun e' => ∃ m', m' < m ∧ W m' e', ct := fun e' => ∃ m', m' < m ∧ W m' e', bk := D.nx } e1 else D.nx e1
theorem ds_while (hp : PassesOwn (model X.prog X.w) X.A X.env X.xe) (hc : DTe X c t) (hb : DSs X sa ts) : DS X (.While c sa [] pos) (dWhile t ts) := by
  refine ⟨fun w => PS.imp (ps_while hp (hc.run w) (hb.run w)) ?_, fun A B e l q => ?_⟩
  · rintro D σ H ⟨F, ad, e, R, W, ⟨m0, w0⟩, q⟩
    refine ⟨fun m σ H => ∃ F ad e, Rel X.K w F ad σ H e ∧ W m e, ⟨m0, F, ad, e, R, w0⟩, ?_⟩
    rintro m σ H ⟨F, ad, e, R, wm⟩
    refine ⟨F, ad, e, R, hc.mono _ _ _ (fun k e1 q1 F1 ad1 H1 s1 R1 => ?_) (q m e wm)⟩
    cases k with
    | true =>
      rw [if_pos rfl] at q1 ⊢
      refine ⟨fun σ' H' => ∃ F ad e, Rel X.K w F ad σ' H' e ∧ ∃ m', m' < m ∧ W m' e, fun σ' H' ⟨F, ad, e, R, m', l, wm'⟩ => ⟨m', l, F, ad, e, R, wm'⟩, ?_⟩
      refine ⟨F1, ad1, e1, R1, hb.mono { endL X.K w D with nx := fun e' => ∃ m', m' < m ∧ W m' e', ct := fun e' => ∃ m', m' < m ∧ W m' e', bk := (endL X.K w D).nx } _ _ ⟨?_, fun _ _ q => q, fun _ _ q => q, fun _ q => q, ?_⟩ q1⟩
      · intro e' q' F' ad' σ' H' R'; exact ⟨F', ad', e', R', q'⟩
      · intro e' q' F' ad' σ' H' R'; exact ⟨F', ad', e', R', q'⟩
    | false =>
      rw [if_neg Bool.false_ne_true] at q1 ⊢
      exact q1 F1 ad1 σ H1 R1
  · obtain ⟨W, w0, q⟩ := q
    refine ⟨W, w0, fun m e wm => hc.mono _ _ _ (fun k e1 q1 => ?_) (q m e wm)⟩
    cases k with
    | true => rw [if_pos rfl] at q1 ⊢; exact hb.mono { A with nx := fun e' => ∃ m', m' < m ∧ W m' e', ct := fun e' => ∃ m', m' < m ∧ W m' e', bk := A.nx } _ _ ⟨fun _ q => q, l.rt, l.rf, l.nx, fun _ q => q⟩ q1
    | false => rw [if_neg Bool.false_ne_true] at q1 ⊢; exact l.nx _ q1
/-- by a word and a measure of the slots -/
theorem dwhile_by {c : DB} {b : DSt} {D : DEnds} {e : Env} (Pv : Env → Prop) (μ : Env → Nat) (h0 : Pv e)
    (mono : ∀ e (Q Q' : Bool → Env → Prop), (∀ k e1, Q k e1 → Q' k e1) → c e Q → c e Q')
    (hs : ∀ e, Pv e → c e fun k e1 => if k = true then b { D with nx := fun e' => Pv e' ∧ μ e' < μ e, ct := fun e' => Pv e' ∧ μ e' < μ e, bk := D.nx } e1 else D.nx e1)
    (bm : ∀ (A B : DEnds) e, A.le B → b A e → b B e) : dWhile c b D e := by
  refine ⟨fun m e => Pv e ∧ μ e = m, ⟨_, h0, rfl⟩, fun m e ⟨p, hm⟩ => mono _ _ _ (fun k e1 q => ?_) (hs e p)⟩
  cases k with
  | true =>
    rw [if_pos rfl] at q ⊢
    subst hm
    exact bm { D with nx := fun e' => Pv e' ∧ μ e' < μ e, ct := fun e' => Pv e' ∧ μ e' < μ e, bk := D.nx } _ _ ⟨fun e' z => ⟨_, z.2, z.1, rfl⟩, fun _ _ z => z, fun _ _ z => z, fun _ z => z, fun e' z => ⟨_, z.2, z.1, rfl⟩⟩ q
  | false => rw [if_neg Bool.false_ne_true] at q ⊢; exact q

/-! ### what is walked -/
/-- a source of items: the items are known when the walk begins -/
abbrev DI := Env → (List D → Env → Prop) → Prop
/-- the iterator J yields the data ds one after the other -/
structure Yields (K : PySem.W.Frag) (F : Hp) (J : It) (ds : List D) : Prop where
  go : ∀ (i : Nat) (H : Hp), Same F H → i < ds.length → J.go i H
  stop : ∀ (i : Nat) (H : Hp), Same F H → ds.length ≤ i → J.stop i H
  yld : ∀ (i : Nat) (H H' : Hp) (x : V) (d : D), Same F H → J.yld i H x H' → ds[i]? = some d → ∃ F', Dq K F' x d ∧ ((F' = F ∧ H' = H) ∨ ∃ p o, H p = none ∧ F' = upd F p o ∧ H' = upd H p o)
def IL (K : PySem.W.Frag) (w : Wd) (f : DI) : TI := fun σ H R => ∃ F ad e, Rel K w F ad σ H e ∧ f e fun ds e' => ∀ F' ad' H' J, Same F F' → Rel K w F' ad' σ H' e' → Yields K F' J ds → R J H'
structure DIt (X : Cx) (tg x : Expr) (f : DI) : Prop where
  run : ∀ w, PI X tg x (IL X.K w f)
  mono : ∀ e (Q Q' : List D → Env → Prop), (∀ ds e', Q ds e' → Q' ds e') → f e Q → f e Q'
theorem PI.imp {tg x : Expr} {t t' : TI} (h : PI X tg x t) (i : ∀ σ H R, t' σ H R → t σ H R) : PI X tg x t' := ⟨fun p s σ H R I q => h.run p s σ H R I (i σ H R q)⟩
theorem yields_list {K : PySem.W.Frag} {F : Hp} {a : Addr} {vs : List V} {ds : List D} (h : SqL K F a vs) (p : DqAll K F vs ds) (inj : ∀ H, Same F H → ∀ us, SqL K H a us → us = vs) : Yields K F (Itl K a) ds where
  go := fun i H s l => by
    have l' : i < vs.length := by rw [dpAll_len p]; exact l
    exact ⟨vs, vs[i], s.seq h, List.getElem?_eq_getElem l'⟩
  stop := fun i H s l => ⟨vs, s.seq h, by rw [dpAll_len p]; exact l⟩
  yld := fun i H H' x d s ⟨e, k⟩ hd => by
    obtain ⟨x', h1, h2⟩ := dpAll_got p hd
    have := k vs (s.seq h)
    rw [h1] at this
    cases this
    exact ⟨F, h2, .inl ⟨rfl, e⟩⟩
theorem yields_tup {K : PySem.W.Frag} {F : Hp} {a : Addr} {vs : List V} {ds : List D} (h : SqT K F a vs) (p : DqAll K F vs ds) : Yields K F (Itt K a) ds where
  go := fun i H s l => by
    have l' : i < vs.length := by rw [dpAll_len p]; exact l
    exact ⟨vs, vs[i], sqT_mono s h, List.getElem?_eq_getElem l'⟩
  stop := fun i H s l => ⟨vs, sqT_mono s h, by rw [dpAll_len p]; exact l⟩
  yld := fun i H H' x d s ⟨e, k⟩ hd => by
    obtain ⟨x', h1, h2⟩ := dpAll_got p hd
    have := k vs (sqT_mono s h)
    rw [h1] at this
    cases this
    exact ⟨F, h2, .inl ⟨rfl, e⟩⟩
def dItL (f : DT) : DI := fun e Q => f e fun d e' => match d with
  | .list ds => Q ds e'
  | _ => False
theorem di_list {tg : Expr} (ha : DE X a f) : DIt X tg a (dItL f) := by
  refine ⟨fun w => PI.imp (pi_list (ha.run w)) ?_, fun e Q Q' m q => ha.mono _ _ _ (fun d e' q' => ?_) q⟩
  · rintro σ H R ⟨F, ad, e, Rl, q⟩
    refine ⟨F, ad, e, Rl, ha.mono _ _ _ (fun d e' q' F' ad' H' v s' R' p => ?_) q⟩
    cases d with
    | list ds =>
      obtain ⟨l, vs, rfl, h1, h2⟩ := dp_list p
      refine ⟨l, rfl, ⟨vs, R'.sub.seq h1⟩, q' F' ad' H' _ s' R' ⟨fun i H s lt => ?_, fun i H s lt => ⟨vs, s.seq h1, by rw [dpAll_len h2]; exact lt⟩, fun i H H'' x d s ⟨e1, k⟩ hd => ?_⟩⟩
      · have l' : i < vs.length := by rw [dpAll_len h2]; exact lt
        exact ⟨vs, vs[i], s.seq h1, List.getElem?_eq_getElem l'⟩
      · obtain ⟨x', g1, g2⟩ := dpAll_got h2 hd
        have := k vs (s.seq h1)
        rw [g1] at this
        cases this
        exact ⟨F', g2, .inl ⟨rfl, e1⟩⟩
    | _ => exact q'.elim
  · cases d with
    | list ds => exact m _ _ q'
    | _ => exact q'.elim
def dItT (f : DT) : DI := fun e Q => f e fun d e' => match d with
  | .tuple ds => Q ds e'
  | _ => False
theorem di_tup {tg : Expr} (ha : DE X a f) : DIt X tg a (dItT f) := by
  refine ⟨fun w => PI.imp (pi_tup (ha.run w)) ?_, fun e Q Q' m q => ha.mono _ _ _ (fun d e' q' => ?_) q⟩
  · rintro σ H R ⟨F, ad, e, Rl, q⟩
    refine ⟨F, ad, e, Rl, ha.mono _ _ _ (fun d e' q' F' ad' H' v s' R' p => ?_) q⟩
    cases d with
    | tuple ds =>
      obtain ⟨l, vs, rfl, h1, h2⟩ := dp_tup p
      exact ⟨l, rfl, ⟨vs, sqT_mono R'.sub h1⟩, q' F' ad' H' _ s' R' (yields_tup h1 h2)⟩
    | _ => exact q'.elim
  · cases d with
    | tuple ds => exact m _ _ q'
    | _ => exact q'.elim
/-- lo, lo + 1, .. , n of them -/
def upto (lo : Int) (n : Nat) : List D := (List.range n).map fun i => .int (lo + (i : Nat))
theorem upto_len (lo : Int) (n : Nat) : (upto lo n).length = n := by unfold upto; rw [List.length_map, List.length_range]
theorem upto_get (lo : Int) (n i : Nat) {d : D} (h : (upto lo n)[i]? = some d) : i < n ∧ d = .int (lo + (i : Nat)) := by
  unfold upto at h
  rw [List.getElem?_map] at h
  by_cases l : i < n
  · rw [List.getElem?_range l] at h
    exact ⟨l, (Option.some.inj h).symm⟩
  · rw [List.getElem?_eq_none (by rw [List.length_range]; omega)] at h
    cases h
theorem yields_range {K : PySem.W.Frag} {F : Hp} (lo : Int) (n : Nat) : Yields K F (Itr lo n) (upto lo n) where
  go := fun i H s l => by rw [upto_len] at l; exact l
  stop := fun i H s l => by rw [upto_len] at l; exact l
  yld := fun i H H' x d s ⟨e1, e2⟩ hd => by
    obtain ⟨_, rfl⟩ := upto_get lo n i hd
    subst e2
    exact ⟨F, .int _, .inl ⟨rfl, e1⟩⟩
def dRng1 (r : DA) : DI := fun e Q => r e fun ds e' => match ds with
  | [.int j] => -(2 ^ 62) ≤ j ∧ j < 2 ^ 62 ∧ Q (upto 0 j.toNat) e'
  | _ => False
def dRng2 (r : DA) : DI := fun e Q => r e fun ds e' => match ds with
  | [.int i, .int j] => (-(2 ^ 62) ≤ i ∧ i < 2 ^ 62 ∧ -(2 ^ 62) ≤ j ∧ j < 2 ^ 62) ∧ Q (upto i (j - i).toNat) e'
  | _ => False
theorem di_rng1 {tg : Expr} {es : List Expr} {r : DA} (hr : DAr X es r) (hp : ∀ ta, PA X es ta → PI X tg x (iRng1 ta)) : DIt X tg x (dRng1 r) := by
  refine ⟨fun w => PI.imp (hp _ (hr.run w)) ?_, fun e Q Q' m q => hr.mono _ _ _ (fun ds e' q' => ?_) q⟩
  · rintro σ H R ⟨F, ad, e, Rl, q⟩
    refine ⟨F, ad, e, Rl, hr.mono _ _ _ (fun ds e' q' F' ad' H' vs s' R' p => ?_) q⟩
    split at q'
    · cases p with
      | cons p pn => cases pn; rw [dp_int p]; exact ⟨_, rfl, q'.1, q'.2.1, q'.2.2 F' ad' H' _ s' R' (yields_range _ _)⟩
    · exact q'.elim
  · split at q'
    · exact ⟨q'.1, q'.2.1, m _ _ q'.2.2⟩
    · exact q'.elim
theorem di_rng2 {tg : Expr} {es : List Expr} {r : DA} (hr : DAr X es r) (hp : ∀ ta, PA X es ta → PI X tg x (iRng2 ta)) : DIt X tg x (dRng2 r) := by
  refine ⟨fun w => PI.imp (hp _ (hr.run w)) ?_, fun e Q Q' m q => hr.mono _ _ _ (fun ds e' q' => ?_) q⟩
  · rintro σ H R ⟨F, ad, e, Rl, q⟩
    refine ⟨F, ad, e, Rl, hr.mono _ _ _ (fun ds e' q' F' ad' H' vs s' R' p => ?_) q⟩
    split at q'
    · cases p with
      | cons p pn =>
        cases pn with
        | cons p2 pn => cases pn; rw [dp_int p, dp_int p2]; exact ⟨_, _, rfl, q'.1, q'.2 F' ad' H' _ s' R' (yields_range _ _)⟩
    · exact q'.elim
  · split at q'
    · exact ⟨q'.1, m _ _ q'.2⟩
    · exact q'.elim

/-! ### for -/
def dFor (wi : DI) (gg : DTg) (b : DSt) : DSt := fun D e => wi e fun ds e1 => ∃ Pv : Nat → Env → Prop, Pv 0 e1 ∧
  (∀ i d e2, ds[i]? = some d → Pv i e2 → gg d e2 fun e3 => b { D with nx := Pv (i + 1), ct := Pv (i + 1), bk := D.nx } e3) ∧ ∀ e2, Pv ds.length e2 → D.nx e2
theorem ds_for {tg : Expr} {wi : DI} {gg : DTg} (hp : PassesOwn (model X.prog X.w) X.A X.env X.xe) (hc : X.calm = true) (hi : DIt X tg a wi) (hg : DG X tg gg) (hb : DSs X sa ts)
    (hs : ∀ z, foldedSetIterable a X.env z = pure z := by intro _; rfl) : DS X (.For tg a sa [] pos) (dFor wi gg ts) := by
  refine ⟨fun w => ⟨fun pins s σ H D I q => ?_⟩, fun A B e l q => ?_⟩
  · -- the source and the body are read in unlike worlds
    obtain ⟨F, ad, e, R, q⟩ := q
    have hfor : ∀ tb : TS, PSs X sa tb → PS X (.For tg a sa [] pos) (tFor (IL X.K w wi) (fun v σ H Q => ∃ w' : Wd, GL X.K w' gg v σ H fun σ' H' => True ∧ Q σ' H') tb) := fun tb hb' =>
      ps_for hp hc (hi.run w) ⟨fun pins s σ H v u Q I r ⟨w', q⟩ => thn ((hg.run w').run pins s σ H v u _ I r q) fun _ s' ⟨σ', H', I', _, q'⟩ => ⟨σ', H', I', q'⟩⟩ hb' hs
    have hb2 : PSs X sa (fun D σ H => ∃ w' : Wd, SL X.K w' ts D σ H) := ⟨fun pins s σ H D I ⟨w', q⟩ => (hb.run w').run pins s σ H D I q⟩
    refine (hfor _ hb2).run pins s σ H D I ⟨F, ad, e, R, hi.mono _ _ _ (fun ds e1 q1 F1 ad1 H1 J s1 R1 Y => ?_) q⟩
    obtain ⟨Pv, p0, hstep, hend⟩ := q1
    refine ⟨fun i m σ H => ∃ F ad e, Same F1 F ∧ Rel X.K w F ad σ H e ∧ Pv i e ∧ i + m = ds.length, ⟨ds.length, F1, ad1, e1, Same.refl F1, R1, p0, by omega⟩, ?_⟩
    rintro i m σ H ⟨F2, ad2, e2, s2, R2, pi, hm⟩
    by_cases hlt : i < ds.length
    · refine .inr ⟨Y.go i H (s2.trans R2.sub) hlt, fun σ' H' => ∃ F ad e, Same F1 F ∧ Rel X.K w F ad σ' H' e ∧ Pv (i + 1) e, fun σ' H' ⟨F, ad, e, a1, a2, a3⟩ => ⟨m - 1, by omega, F, ad, e, a1, a2, a3, by omega⟩, fun x H' hy => ?_⟩
      obtain ⟨d, hd⟩ : ∃ d, ds[i]? = some d := ⟨_, List.getElem?_eq_getElem hlt⟩
      obtain ⟨F3, pd, gr⟩ := Y.yld i H H' x d (s2.trans R2.sub) hy hd
      -- the world of this turn knows all that is known by now
      have R3 : Σ' F4 : Hp, PLift (Same F2 F4 ∧ Rel X.K w F4 ad2 σ H' e2 ∧ Dq X.K F4 x d) := by
        by_cases hh : F3 = F1 ∧ H' = H
        · obtain ⟨h1, h2⟩ := hh
          subst h2
          subst h1
          exact ⟨F2, ⟨Same.refl _, R2, dp_mono s2 _ _ pd⟩⟩
        · have gr' : ∃ p o, H p = none ∧ F3 = upd F1 p o ∧ H' = upd H p o := by
            rcases gr with g | g
            · exact absurd g hh
            · exact g
          have ex : ∃ F4 : Hp, Same F2 F4 ∧ Rel X.K w F4 ad2 σ H' e2 ∧ Dq X.K F4 x d := by
            obtain ⟨p, o, h1, h2, h3⟩ := gr'
            subst h2
            subst h3
            exact ⟨upd F2 p o, same_upd R2.sub h1, R2.grow h1, dp_mono (same_upd2 s2) _ _ pd⟩
          exact ⟨ex.choose, ⟨ex.choose_spec⟩⟩
      obtain ⟨F4, ⟨s4, R4, p4⟩⟩ := R3
      refine ⟨{ w with F0 := F4 }, F4, ad2, e2, d, R4.known, p4, hg.mono _ _ _ _ (fun e3 q3 F5 ad5 σ5 H5 s5 R5 => ⟨trivial, ?_⟩) (hstep i d e2 hd pi)⟩
      refine ⟨{ w with F0 := F4 }, F5, ad5, e3, R5, hb.mono { endL X.K w D with nx := Pv (i + 1), ct := Pv (i + 1), bk := (endL X.K w D).nx } _ _ ⟨?_, ?_, ?_, ?_, ?_⟩ q3⟩
      · intro e' q' F' ad' σ' H' R'
        exact ⟨F', ad', e', s2.trans (s4.trans R'.old), R4.unknown R', q'⟩
      · intro d' e' q' F' ad' σ' H' v R' p'
        exact q' F' ad' σ' H' v (R4.unknown R') p'
      · intro d' e' q' F' ad' σ' H' a' xs' R' z' fr' p'
        exact q' F' ad' σ' H' a' xs' (R4.unknown R') z' ⟨fr'.fF, fr'.f0, fr'.fm, fr'.fb⟩ p'
      · intro e' q' F' ad' σ' H' R'
        exact q' F' ad' σ' H' (R4.unknown R')
      · intro e' q' F' ad' σ' H' R'
        exact ⟨F', ad', e', s2.trans (s4.trans R'.old), R4.unknown R', q'⟩
    · have he : i = ds.length := by omega
      subst he
      exact .inl ⟨Y.stop _ H (s2.trans R2.sub) (Nat.le_refl _), hend e2 pi F2 ad2 σ H R2⟩
  · refine hi.mono _ _ _ (fun ds e1 ⟨Pv, p0, h1, h2⟩ => ⟨Pv, p0, fun i d e2 hd pi => ?_, fun e2 pi => l.nx _ (h2 e2 pi)⟩) q
    exact hg.mono _ _ _ _ (fun e3 q3 => hb.mono { A with nx := Pv (i + 1), ct := Pv (i + 1), bk := A.nx } _ _ ⟨fun _ q => q, l.rt, l.rf, l.nx, fun _ q => q⟩ q3) (h1 i d e2 hd pi)
end
end DL

/-! The D layer, part 4: comprehensions, calls of defs, defs. -/
namespace DL
open PySem PySem.Spec PyProof.Rows L2

/-! ### a new list that nobody holds: adopted, written -/
section
variable {K : PySem.W.Frag} {w : Wd} {F : Hp} {ad : Nat → Addr} {σ : L2.St} {H : Hp} {e : Env} {a : Addr} {xs : List V} {ds : List D}
theorem Rel.adoptG {ho : HO} {o : Ow} {d : D} (R : Rel K w F ad σ H e) (hH : H a = some ho) (fr : Fresh w F ad e a) (p : OwR K F a ho o) (up : ∀ F' : Hp, F' a = some ho → OwR K F' a ho o → Dq K F' (.ref a) d) :
    Rel K w (upd F a ho) ad σ H e ∧ Same F (upd F a ho) ∧ Dq K (upd F a ho) (.ref a) d := by
  have hF : Same F (upd F a ho) := fun b u q => by
    by_cases z : b = a
    · subst z; rw [fr.fF] at q; cases q
    · rw [upd_ne z]; exact q
  have dn : ∀ b, b ≠ a → F b = none → (upd F a ho) b = none := fun b z q => by rw [upd_ne z]; exact q
  refine ⟨?_, hF, up _ upd_same (ow_mono hF p)⟩
  exact {
    sub := fun b u q => by
      by_cases z : b = a
      · subst z; rw [upd_same] at q; cases q; exact hH
      · rw [upd_ne z] at q; exact R.sub b u q
    old := R.old.trans hF
    dom := R.dom
    fr := fun b u q1 q2 q3 => by
      obtain ⟨b1, b2⟩ := R.fr b u q1 q2 q3
      refine ⟨b1, dn b (fun z => ?_) b2⟩
      subst z
      rw [fr.f0] at q1; cases q1
    len := R.len
    im := fun j d q => by obtain ⟨v, b1, b2⟩ := R.im j d q; exact ⟨v, b1, dp_mono hF _ _ b2⟩
    mu := fun j es q => by
      obtain ⟨ys, b1, b2, b3, b4, b5⟩ := R.mu j es q
      exact ⟨ys, b1, b2, dn _ (fr.fm j es q) b3, ow_mono hF b4, b5⟩
    bo := fun j es q => by
      obtain ⟨b0, ys, b1, b2, b3, b4⟩ := R.bo j es q
      exact ⟨b0, ys, b1, b2, dn _ (fun z => fr.fb b0 z.symm) b3, ow_mono hF b4⟩
    hbo := R.hbo
    inj := R.inj
    nbo := R.nbo
    ubo := R.ubo }
theorem Rel.write {o : HO} (R : Rel K w F ad σ H e) (fr : Fresh w F ad e a) : Rel K w F ad σ (upd H a o) e where
  sub := fun b u q => by rw [upd_ne (fun z => by subst z; rw [fr.fF] at q; cases q)]; exact R.sub b u q
  old := R.old
  dom := fun b u q => by
    obtain ⟨u', q'⟩ := R.dom b u q
    by_cases z : b = a
    · subst z; exact ⟨_, upd_same⟩
    · exact ⟨u', by rw [upd_ne z]; exact q'⟩
  fr := fun b u q1 q2 q3 => by
    obtain ⟨b1, b2⟩ := R.fr b u q1 q2 q3
    exact ⟨by rw [upd_ne (fun z => by subst z; rw [fr.f0] at q1; cases q1)]; exact b1, b2⟩
  len := R.len
  im := R.im
  mu := fun j es q => by
    obtain ⟨ys, b1, b2, b3⟩ := R.mu j es q
    exact ⟨ys, b1, by rw [upd_ne (fr.fm j es q)]; exact b2, b3⟩
  bo := fun j es q => by
    obtain ⟨b0, ys, b1, b2, b3⟩ := R.bo j es q
    exact ⟨b0, ys, b1, by rw [upd_ne (fun z => fr.fb b0 z.symm)]; exact b2, b3⟩
  hbo := R.hbo
  inj := R.inj
  nbo := R.nbo
  ubo := R.ubo
/-- what is laid here stays where it is, whatever a reading from here does -/
theorem Rel.keeps {ho : HO} {F' : Hp} {ad' : Nat → Addr} {σ' : L2.St} {H' : Hp} {e' : Env} (R : Rel K w F ad σ H e) (q : Rel K (here w F ad H e) F' ad' σ' H' e') (hH : H a = some ho) (fr : Fresh w F ad e a) : H' a = some ho ∧ Fresh w F' ad' e' a := by
  obtain ⟨h1, h2⟩ := q.fr a _ hH fr.fF (fun z => by
    rcases z with ⟨i, ds, z1, z2⟩ | ⟨z1, z2⟩
    · exact fr.fm i ds z1 z2
    · exact fr.fb z1 z2)
  refine ⟨h1, h2, fr.f0, fun i ds z z' => ?_, fr.fb⟩
  obtain ⟨_, _, _, _, _, h5⟩ := q.mu i ds z
  rw [z'] at h5
  rcases h5 with h5 | h5
  · have h5' : H a = none := h5
    rw [hH] at h5'; cases h5'
  · rcases h5 with ⟨j, es, z1, z2⟩ | ⟨z1, z2⟩
    · exact fr.fm j es z1 z2
    · exact fr.fb z1 z2
end

section
variable {X : Cx} {x y a b c elt : Expr} {f g h : DT} {t u : DB} {pos : Pos}

/-- a list of one's own as data -/
def dFrz (f : DF) : DT := fun e Q => f e fun o e' => match owD o with
  | some d => Q d e'
  | none => False
/-- a new thing becomes data -/
theorem Rel.adoptD {K : PySem.W.Frag} {w : Wd} {F : Hp} {ad : Nat → Addr} {σ : L2.St} {H : Hp} {e : Env} {a : Addr} {ho : HO} {o : Ow} {d : D} (R : Rel K w F ad σ H e) (hH : H a = some ho) (fr : Fresh w F ad e a) (p : OwR K F a ho o) (hd : owD o = some d) :
    (∃ F', Same F F' ∧ Rel K w F' ad σ H e ∧ Dq K F' (.ref a) d) ∨ (Mut (some ho) ∧ ∀ od, ∃ F', Same F F' ∧ Rel K w F' ad σ (upd H a (.frz od ho)) e ∧ Dq K F' (.ref a) d) := by
  cases p with
  | lst r =>
    have hd : some (PyData.list _) = some d := hd
    cases hd
    obtain ⟨R2, sm, dp⟩ := R.adoptG (d := .list _) hH fr (.lst r) (fun F' h r' => by
      cases r' with
      | lst r' => exact .lst (Rd.of h) r')
    exact .inl ⟨_, sm, R2, dp⟩
  | @dct xs ds r =>
    have hd : some (PyData.dict (ds.map fun p => (kD p.1, p.2))) = some d := hd
    cases hd
    refine .inr ⟨trivial, fun od => ?_⟩
    have R1 := R.write (o := .frz od (.dK xs)) fr
    obtain ⟨R2, sm, dp⟩ := R1.adoptG (o := .dctZ ds) (d := .dict (ds.map fun p => (kD p.1, p.2))) upd_same fr (.dctZ r) (fun F' z r' => by
      cases r' with
      | dctZ r' => exact .dct z (kvs_dq r'))
    exact ⟨_, sm, R2, dp⟩
  | dtu r => exact absurd hd (fun z => nomatch z)
  | dctZ r => exact absurd hd (fun z => nomatch z)
  | set => exact absurd hd (fun z => nomatch z)
  | obj h1 h2 h3 h4 =>
    obtain ⟨R2, sm, dp⟩ := R.adoptG (d := d) hH fr (.obj h1 h2 h3 h4) (fun F' z r' => by
      cases r' with
      | obj h1 h2 h3 h4 => exact obj_dq h1 h2 h3 h4 hd z)
    exact .inl ⟨_, sm, R2, dp⟩
theorem de_frz {f : DF} (ha : DFe X x f) : DE X x (dFrz f) := by
  refine ⟨fun w => PE.imp (pe_may (ha.run w)) ?_, fun e Q Q' m q => ha.mono _ _ _ (fun o e' q' => ?_) q⟩
  · rintro σ H Q ⟨F, ad, e, R, q⟩
    refine ⟨F, ad, e, R, ha.mono _ _ _ (fun o e' q' F' ad' H' l xs s' R' z fr p => ?_) q⟩
    cases y : owD o with
    | none => rw [y] at q'; exact q'.elim
    | some d =>
      rw [y] at q'
      rcases R'.adoptD z fr p y with ⟨F2, sm, R2, dp⟩ | ⟨mu, k⟩
      · exact .inl (q' _ ad' H' _ (s'.trans sm) R2 dp)
      · refine .inr ⟨l, xs, rfl, z, mu, fun od => ?_⟩
        obtain ⟨F2, sm, R2, dp⟩ := k od
        exact q' _ ad' _ _ (s'.trans sm) R2 dp
  · cases y : owD o with
    | none => rw [y] at q'; exact q'.elim
    | some d => rw [y] at q'; exact m _ _ q'

theorem frz_mono {f : DF} (hm : ∀ e (Q Q' : Ow → Env → Prop), (∀ d e', Q d e' → Q' d e') → f e Q → f e Q') : ∀ e (Q Q' : D → Env → Prop), (∀ d e', Q d e' → Q' d e') → dFrz f e Q → dFrz f e Q' := fun e Q Q' m q => hm _ _ _ (fun o e' q' => by
  cases y : owD o with
  | none => rw [y] at q'; exact q'.elim
  | some d => rw [y] at q'; exact m _ _ q') q
/-! ### comprehensions -/
def wipeE (e : Env) : List Nat → Env
  | [] => e
  | v :: vs => (wipeE e vs).set v .un
theorem wipeE_len (e : Env) : ∀ vs, (wipeE e vs).length = e.length
  | [] => rfl
  | v :: vs => by show ((wipeE e vs).set v .un).length = _; rw [List.length_set, wipeE_len e vs]
theorem wipeE_get {e : Env} {σ : L2.St} : ∀ {vs : List Nat} {j : Nat} {s : Sl}, (wipeE e vs)[j]? = some s → s = .un ∨ (e[j]? = some s ∧ (wipe σ vs)[j]? = σ[j]?)
  | [], j, s, h => .inr ⟨h, rfl⟩
  | v :: vs, j, s, h => by
    have h' : ((wipeE e vs).set v .un)[j]? = some s := h
    rw [List.getElem?_set] at h'
    by_cases z : v = j
    · rw [if_pos z] at h'
      by_cases l : v < (wipeE e vs).length
      · rw [if_pos l] at h'; exact .inl (Option.some.inj h').symm
      · rw [if_neg l] at h'; cases h'
    · rw [if_neg z] at h'
      rcases wipeE_get (σ := σ) h' with q | ⟨q1, q2⟩
      · exact .inl q
      · refine .inr ⟨q1, ?_⟩
        show ((wipe σ vs).set v none)[j]? = _
        rw [List.getElem?_set, if_neg z]
        exact q2
theorem Rel.wiped {K : PySem.W.Frag} {w : Wd} {F : Hp} {ad : Nat → Addr} {σ : L2.St} {H : Hp} {e : Env} (R : Rel K w F ad σ H e) (vs : List Nat) : Rel K w F ad (wipe σ vs) H (wipeE e vs) :=
  R.forget (by rw [wipe_length, wipeE_len]; exact R.len) fun j s h => wipeE_get h
theorem Rel.unwiped {K : PySem.W.Frag} {w : Wd} {F : Hp} {ad : Nat → Addr} {σ : L2.St} {H : Hp} {e : Env} {vs : List Nat} (R : Rel K w F ad (wipe σ vs) H e) : Rel K w F ad σ H e := by
  refine R.forget (by rw [← R.len, wipe_length]) fun j s h => ?_
  cases s with
  | un => exact .inl rfl
  | im d => obtain ⟨v, h1, _⟩ := R.im j d h; exact .inr ⟨h, by rw [h1]; exact (wipe_some h1).1⟩
  | mu d => obtain ⟨v, h1, _⟩ := R.mu j d h; exact .inr ⟨h, by rw [h1]; exact (wipe_some h1).1⟩
  | bo d => obtain ⟨_, v, h1, _⟩ := R.bo j d h; exact .inr ⟨h, by rw [h1]; exact (wipe_some h1).1⟩
/-- a comprehension's target: it stores in the slots vs alone -/
structure TgOk (K : PySem.W.Frag) (vs : List Nat) (g : TG) (gd : DTg) : Prop where
  run : ∀ (w : Wd) (F : Hp) (ad : Nat → Addr) (σ : L2.St) (H : Hp) (e : Env) (v : V) (d : D) (P : Env → Prop), Rel K w F ad σ H e → Dq K F v d → gd d e P → g v σ H fun σ2 H2 => H2 = H ∧ wipe σ2 vs = wipe σ vs ∧ ∃ e2, Rel K w F ad σ2 H e2 ∧ P e2
  mono : ∀ d e (Q Q' : Env → Prop), (∀ e', Q e' → Q' e') → gd d e Q → gd d e Q'
  up : ∀ v σ H (Q Q' : L2.St → Hp → Prop), (∀ σ' H', Q σ' H' → Q' σ' H') → g v σ H Q → g v σ H Q'
structure TgsOk (K : PySem.W.Frag) (vs : List Nat) (g : TGs) (gd : DTgs) : Prop where
  run : ∀ (w : Wd) (F : Hp) (ad : Nat → Addr) (σ : L2.St) (H : Hp) (e : Env) (us : List V) (ds : List D) (P : Env → Prop), Rel K w F ad σ H e → DqAll K F us ds → gd ds e P → g us σ H fun σ2 H2 => H2 = H ∧ wipe σ2 vs = wipe σ vs ∧ ∃ e2, Rel K w F ad σ2 H e2 ∧ P e2
  mono : ∀ d e (Q Q' : Env → Prop), (∀ e', Q e' → Q' e') → gd d e Q → gd d e Q'
  up : ∀ us σ H (Q Q' : L2.St → Hp → Prop), (∀ σ' H', Q σ' H' → Q' σ' H') → g us σ H Q → g us σ H Q'
theorem wipe_set {σ : L2.St} {v : Option V} : ∀ {vs : List Nat} {i : Nat}, i ∈ vs → wipe (σ.set i v) vs = wipe σ vs
  | [], i, h => by cases h
  | k :: vs, i, h => by
    show (wipe (σ.set i v) vs).set k none = (wipe σ vs).set k none
    by_cases z : i ∈ vs
    · rw [wipe_set z]
    · have hk : i = k := by
        rcases List.mem_cons.mp h with h | h
        · exact h
        · exact absurd h z
      subst hk
      have cm : ∀ (vs : List Nat), i ∉ vs → wipe (σ.set i v) vs = (wipe σ vs).set i v := by
        intro vs
        induction vs with
        | nil => intro _; rfl
        | cons k ks ih =>
          intro h
          show (wipe (σ.set i v) ks).set k none = ((wipe σ ks).set k none).set i v
          rw [ih (fun q => h (List.mem_cons_of_mem _ q)), List.set_comm _ _ (fun q => h (by rw [q]; exact List.mem_cons_self))]
      rw [cm vs z, List.set_set]
theorem wipe_sub {σ : L2.St} {ws : List Nat} : ∀ {vs : List Nat}, (∀ v ∈ vs, v ∈ ws) → wipe (wipe σ vs) ws = wipe σ ws
  | [], _ => rfl
  | v :: vs, h => by
    show wipe ((wipe σ vs).set v none) ws = _
    rw [wipe_set (h v List.mem_cons_self)]
    exact wipe_sub fun k hk => h k (List.mem_cons_of_mem _ hk)
theorem wipe_wipe {σ : L2.St} {vs : List Nat} : wipe (wipe σ vs) vs = wipe σ vs := wipe_sub fun _ h => h
theorem tg_name {K : PySem.W.Frag} {vs : List Nat} {i : Nat} (h : i ∈ vs) : TgOk K vs (gName i) (dgName i) :=
  ⟨fun w F ad σ H e v d P R p q => ⟨rfl, wipe_set h, _, R.set p, q⟩, fun d e Q Q' m q => m _ q, fun v σ H Q Q' m q => m _ _ q⟩
theorem tgs_nil {K : PySem.W.Frag} {vs : List Nat} : TgsOk K vs gNil dgNil :=
  ⟨fun w F ad σ H e us ds P R p q => by
    obtain ⟨q1, q2⟩ := q
    subst q1
    cases p
    exact ⟨rfl, rfl, rfl, e, R, q2⟩, fun d e Q Q' m q => ⟨q.1, m _ q.2⟩, fun us σ H Q Q' m q => ⟨q.1, m _ _ q.2⟩⟩
theorem tgs_cons {K : PySem.W.Frag} {vs : List Nat} {g : TG} {gd : DTg} {r : TGs} {rd : DTgs} (h1 : TgOk K vs g gd) (h2 : TgsOk K vs r rd) : TgsOk K vs (gCons g r) (dgCons gd rd) :=
  ⟨fun w F ad σ H e us ds P R p q => by
    cases p with
    | nil => exact q.elim
    | cons p1 p2 =>
      refine ⟨_, _, rfl, h1.up _ _ _ _ _ (fun σ1 H1 z => ?_) (h1.run w F ad σ H e _ _ _ R p1 q)⟩
      obtain ⟨rfl, z2, e1, R1, q1⟩ := z
      refine h2.up _ _ _ _ _ (fun σ2 H2 z => ?_) (h2.run w F ad σ1 _ e1 _ _ _ R1 p2 q1)
      obtain ⟨rfl, z3, e2, R2, q2⟩ := z
      exact ⟨rfl, z3.trans z2, e2, R2, q2⟩, fun ds e Q Q' m q => by
    cases ds with
    | nil => exact q.elim
    | cons d es => exact h1.mono _ _ _ _ (fun e1 q1 => h2.mono _ _ _ _ m q1) q, fun us σ H Q Q' m q => by
    obtain ⟨v, r, e, q⟩ := q
    exact ⟨v, r, e, h1.up _ _ _ _ _ (fun σ1 H1 q1 => h2.up _ _ _ _ _ m q1) q⟩⟩
theorem tg_tup {K : PySem.W.Frag} {vs : List Nat} {n : Nat} {r : TGs} {rd : DTgs} (h2 : TgsOk K vs r rd) : TgOk K vs (gTup K n r) (dgTup n rd) :=
  ⟨fun w F ad σ H e v d P R p q => by
    cases d with
    | tuple ds =>
      obtain ⟨a, us, rfl, t1, t2⟩ := dp_tup p
      exact ⟨a, us, rfl, sqT_mono R.sub t1, by rw [dpAll_len t2]; exact q.1, h2.run w F ad σ H e _ _ _ R t2 q.2⟩
    | _ => exact q.elim, fun d e Q Q' m q => by
    cases d with
    | tuple ds => exact ⟨q.1, h2.mono _ _ _ _ m q.2⟩
    | _ => exact q.elim, fun v σ H Q Q' m q => by
    obtain ⟨a, xs, e1, e2, e3, q⟩ := q
    exact ⟨a, xs, e1, e2, e3, h2.up _ _ _ _ _ m q⟩⟩
/-- the tests of a clause -/
structure DTs (X : Cx) (ifs : List Expr) (f : DB) : Prop where
  run : ∀ w, PTs X ifs (CL X.K w f)
  mono : ∀ e (Q Q' : Bool → Env → Prop), (∀ d e', Q d e' → Q' d e') → f e Q → f e Q'
def dYes : DB := fun e Q => Q true e
theorem PTs.imp {ifs : List Expr} {t t' : TT} (h : PTs X ifs t) (i : ∀ σ H Q, t' σ H Q → t σ H Q) : PTs X ifs t' := ⟨fun p s σ H Q I q => h.run p s σ H Q I (i σ H Q q)⟩
theorem dts_nil : DTs X [] dYes := ⟨fun w => PTs.imp pts_nil fun σ H Q ⟨F, ad, e, R, q⟩ => q F ad H (Same.refl F) R, fun e Q Q' m q => m _ _ q⟩
theorem dts_one (hc : DTe X c t) : DTs X [c] t := ⟨fun w => pts_one (hc.run w), hc.mono⟩
def dComp (wi : DI) (gd : DTg) (tt : DB) (f : DT) (vs : List Nat) : DF := fun e Q => wi e fun ds e1 => ∃ Pv : Nat → List D → Env → Prop, Pv 0 [] (wipeE e1 vs) ∧
  (∀ i d acc e2, ds[i]? = some d → Pv i acc e2 → gd d e2 fun e3 => tt e3 fun k e4 => if k = true then f e4 fun y e5 => acc.length < sizeLine ∧ Pv (i + 1) (acc ++ [y]) (wipeE e5 vs) else Pv (i + 1) acc (wipeE e4 vs)) ∧
  ∀ acc e2, Pv ds.length acc e2 → Q (.lst acc) e2
/-- what a comprehension reads, by what its block reads -/
theorem tlc_comp {K : PySem.W.Frag} {w : Wd} {own : List (Str × Nat)} {wi : DI} {gr : TG} {gd : DTg} {tt : DB} {f : DT} (hm : ∀ e (Q Q' : List D → Env → Prop), (∀ d e', Q d e' → Q' d e') → wi e Q → wi e Q')
    (tk : TgOk K (own.map (·.2)) gr gd) (mt : ∀ e (Q Q' : Bool → Env → Prop), (∀ d e', Q d e' → Q' d e') → tt e Q → tt e Q') (mf : ∀ e (Q Q' : D → Env → Prop), (∀ d e', Q d e' → Q' d e') → f e Q → f e Q') (σ : L2.St) (H : Hp) (Q : V → Hp → Prop)
    (q : FL K w (dComp wi gd tt f (own.map (·.2))) σ H Q) : tLc (IL K w wi) gr (fun σ H Q => ∃ w' : Wd, CL K w' tt σ H Q) (fun σ H Q => ∃ w' : Wd, EL K w' f σ H Q) (own.map (·.2)) σ H Q := by
  obtain ⟨F, ad, e, R, q⟩ := q
  refine ⟨F, ad, e, R, hm _ _ _ (fun ds e1 q1 F1 ad1 H1 J s1 R1 Y => ?_) q⟩
  intro Da hDa
  obtain ⟨Pv, p0, hstep, hend⟩ := q1
  obtain ⟨R0, f0⟩ := R1.layOwn (o := .lst []) hDa
  have sx : ∀ F, Same F1 F → ∀ H, Same F H → Same F1 H := fun F a H b => a.trans b
  refine ⟨fun i m H => ∃ F ad e acc xs, Same F1 F ∧ Rel K w F ad (wipe σ (own.map (·.2))) H e ∧ Pv i acc e ∧ H Da = some (.lst xs) ∧ Fresh w F ad e Da ∧ DqAll K F xs acc ∧ i + m = ds.length,
    ⟨ds.length, F1, ad1, wipeE e1 (own.map (·.2)), [], [], Same.refl F1, R0.wiped _, p0, upd_same, ⟨f0.fF, f0.f0, fun i es z => ?_, f0.fb⟩, .nil, by omega⟩, ?_⟩
  · rcases wipeE_get (σ := σ) z with z | ⟨z, _⟩
    · cases z
    · exact f0.fm i es z
  rintro i m H2 ⟨F2, ad2, e2, acc, xs, s2, R2, pi, hD, fr, pa, hmm⟩
  by_cases hlt : i < ds.length
  · refine .inr ⟨Y.go i H2 (s2.trans R2.sub) hlt, fun H' => ∃ F ad e acc xs, Same F1 F ∧ Rel K w F ad (wipe σ (own.map (·.2))) H' e ∧ Pv (i + 1) acc e ∧ H' Da = some (.lst xs) ∧ Fresh w F ad e Da ∧ DqAll K F xs acc, ?_, fun x H' hy => ?_⟩
    · rintro H' ⟨F, ad, e, acc, xs, a1, a2, a3, a4, a5, a6⟩
      exact ⟨m - 1, by omega, F, ad, e, acc, xs, a1, a2, a3, a4, a5, a6, by omega⟩
    obtain ⟨d, hd⟩ : ∃ d, ds[i]? = some d := ⟨_, List.getElem?_eq_getElem hlt⟩
    obtain ⟨F3, pd, gr'⟩ := Y.yld i H2 H' x d (s2.trans R2.sub) hy hd
    have ex : ∃ F4 : Hp, Same F2 F4 ∧ Rel K w F4 ad2 (wipe σ (own.map (·.2))) H' e2 ∧ Dq K F4 x d ∧ H' Da = some (.lst xs) ∧ Fresh w F4 ad2 e2 Da := by
      rcases gr' with ⟨h1, h2⟩ | ⟨p, o, h1, h2, h3⟩
      · subst h2
        subst h1
        exact ⟨F2, Same.refl _, R2, dp_mono s2 _ _ pd, hD, fr⟩
      · subst h2
        subst h3
        have ne : Da ≠ p := fun z => by subst z; rw [hD] at h1; cases h1
        exact ⟨upd F2 p o, same_upd R2.sub h1, R2.grow h1, dp_mono (same_upd2 s2) _ _ pd, by rw [upd_ne ne]; exact hD, ⟨by rw [upd_ne ne]; exact fr.fF, fr.f0, fr.fm, fr.fb⟩⟩
    obtain ⟨F4, s4, R4, p4, hD4, fr4⟩ := ex
    refine tk.up _ _ _ _ _ (fun σ5 H5 z => ?_) (tk.run _ F4 ad2 _ H' e2 x d _ R4.rebase p4 (hstep i d acc e2 hd pi))
    obtain ⟨rfl, zw, e5, R5, q5⟩ := z
    rw [wipe_wipe] at zw
    refine ⟨zw, _, F4, ad2, e5, R5, mt _ _ _ (fun k e6 q6 F6 ad6 H6 s6 R6 => ?_) q5⟩
    cases k with
    | true =>
      rw [if_pos rfl] at q6 ⊢
      refine ⟨_, F6, ad6, e6, R6, mf _ _ _ (fun y e7 q7 F7 ad7 H7 v7 s7 R7 p7 => ?_) q6⟩
      obtain ⟨h7, fr7⟩ := R4.keeps R7 hD4 fr4
      have B7 := R4.back R7
      refine ⟨xs, h7, by rw [dpAll_len pa]; exact q7.1, F7, ad7, wipeE e7 (own.map (·.2)), acc ++ [y], xs ++ [v7], s2.trans (s4.trans (R7.old)), ?_, q7.2, upd_same, ?_, ?_⟩
      · have B8 := (B7.write (o := .lst (xs ++ [v7])) fr7).wiped (own.map (·.2))
        rw [zw] at B8
        exact B8
      · refine ⟨fr7.fF, fr7.f0, fun j es z => ?_, fr7.fb⟩
        rcases wipeE_get (σ := σ) z with z | ⟨z, _⟩
        · cases z
        · exact fr7.fm j es z
      · exact dpAll_app (dpAll_mono (s4.trans R7.old) _ _ pa) (.cons p7 .nil)
    | false =>
      rw [if_neg Bool.false_ne_true] at q6 ⊢
      obtain ⟨h7, fr7⟩ := R4.keeps R6 hD4 fr4
      have B7 := R4.back R6
      refine ⟨F6, ad6, wipeE e6 (own.map (·.2)), acc, xs, s2.trans (s4.trans R6.old), ?_, q6, h7, ?_, dpAll_mono (s4.trans R6.old) _ _ pa⟩
      · have B8 := B7.wiped (own.map (·.2))
        rw [zw] at B8
        exact B8
      · refine ⟨fr7.fF, fr7.f0, fun j es z => ?_, fr7.fb⟩
        rcases wipeE_get (σ := σ) z with z | ⟨z, _⟩
        · cases z
        · exact fr7.fm j es z
  · have hE : i = ds.length := by omega
    subst hE
    exact .inl ⟨Y.stop _ H2 (s2.trans R2.sub) (Nat.le_refl _), hend acc e2 pi F2 ad2 H2 Da _ (s1.trans s2) R2.unwiped hD fr (.lst pa)⟩
theorem df_comp {tg iter : Expr} {ifs : List Expr} {scope : Scope} {own : List (Str × Nat)} {wi : DI} {gr : TG} {gd : DTg} {tt : DB} (hc : X.calm = true) (hN : X.N.Nodup) (hi : DIt X tg iter wi) (ok : BlkOk X.N X.env.scope scope own)
    (hg : ∀ (s : Shared) (H : Hp) (C : Addr) (cl : List (Str × Addr)) (fp : List Addr), PG (X.blk s H scope (compEnvC scope cl C X.env) fp) tg gr) (tk : TgOk X.K (own.map (·.2)) gr gd)
    (ht : ∀ (s : Shared) (H : Hp) (C : Addr) (cl : List (Str × Addr)) (fp : List Addr), DTs (X.blk s H scope (compEnvC scope cl C X.env) fp) ifs tt)
    (he : ∀ (s : Shared) (H : Hp) (C : Addr) (cl : List (Str × Addr)) (fp : List Addr), DE (X.blk s H scope (compEnvC scope cl C X.env) fp) elt f)
    (hs : ∀ z, foldedSetIterable iter X.env z = pure z := by intro _; rfl) :
    DFe X (.ListComp elt [⟨tg, iter, ifs, 0⟩] scope pos) (dComp wi gd tt f (own.map (·.2))) := by
  refine ⟨fun w => ⟨fun pins s σ H Q I q => ?_⟩, fun e Q Q' m q => ?_⟩
  · have mt := (ht s H 0 [] []).mono
    have mf := (he s H 0 [] []).mono
    have hlc : PE X (.ListComp elt [⟨tg, iter, ifs, 0⟩] scope pos) (tLc (IL X.K w wi) gr (fun σ H Q => ∃ w' : Wd, CL X.K w' tt σ H Q) (fun σ H Q => ∃ w' : Wd, EL X.K w' f σ H Q) (own.map (·.2))) :=
      pe_lc hc hN (hi.run w) ok hg (fun s H C cl fp => ⟨fun p s' σ H' Q I' ⟨w', q⟩ => ((ht s H C cl fp).run w').run p s' σ H' Q I' q⟩) (fun s H C cl fp => ⟨fun p s' σ H' Q I' ⟨w', q⟩ => ((he s H C cl fp).run w').run p s' σ H' Q I' q⟩) hs
    exact hlc.run pins s σ H Q I (tlc_comp hi.mono tk mt mf σ H Q q)
  · exact hi.mono _ _ _ (fun ds e1 ⟨Pv, p0, h1, h2⟩ => ⟨Pv, p0, h1, fun acc e2 pi => m _ _ (h2 acc e2 pi)⟩) q
/-- name = [..] on one line -/
theorem ds_setLcF (s0 : Shared) (H0 : Hp) {elt tg iter : Expr} {ifs : List Expr} {scope : Scope} {own : List (Str × Nat)} {wi : DI} {gr : TG} {gd : DTg} {tt : DB} {i : Nat} {y : Str} {py spos : Pos} (hc : X.calm = true) (hN : X.N.Nodup) (hy : X.N[i]? = some y) (hyl : X.env.scope.names.lookup y = some .local)
    (hsw : swapsWith (.ListComp elt [⟨tg, iter, ifs, 0⟩] scope pos) (some (.Name y py)) spos.line X.env = pure true) (hi : DIt X tg iter wi) (ok : BlkOk X.N X.env.scope scope own)
    (hg : ∀ (s : Shared) (H : Hp) (C : Addr) (cl : List (Str × Addr)) (fp : List Addr), PG (X.blk s H scope (compEnvC scope cl C X.env) fp) tg gr) (tk : TgOk X.K (own.map (·.2)) gr gd)
    (ht : ∀ (s : Shared) (H : Hp) (C : Addr) (cl : List (Str × Addr)) (fp : List Addr), DTs (X.blk s H scope (compEnvC scope cl C X.env) fp) ifs tt)
    (he : ∀ (s : Shared) (H : Hp) (C : Addr) (cl : List (Str × Addr)) (fp : List Addr), DE (X.blk s H scope (compEnvC scope cl C X.env) fp) elt f)
    (hs : ∀ z, foldedSetIterable iter X.env z = pure z := by intro _; rfl) : DS X (.Assign [.Name y py] (.ListComp elt [⟨tg, iter, ifs, 0⟩] scope pos) spos) (dAsgF (dComp wi gd tt f (own.map (·.2))) i) := by
  have mt := (ht s0 H0 0 [] []).mono
  have mf := (he s0 H0 0 [] []).mono
  have mc : ∀ e (Q Q' : Ow → Env → Prop), (∀ d e', Q d e' → Q' d e') → dComp wi gd tt f (own.map (·.2)) e Q → dComp wi gd tt f (own.map (·.2)) e Q' := fun e Q Q' m q => hi.mono _ _ _ (fun ds e1 ⟨Pv, p0, h1, h2⟩ => ⟨Pv, p0, h1, fun acc e2 pi => m _ _ (h2 acc e2 pi)⟩) q
  have hps : ∀ w, PS X (.Assign [.Name y py] (.ListComp elt [⟨tg, iter, ifs, 0⟩] scope pos) spos) (tAsg (tLc (IL X.K w wi) gr (fun σ H Q => ∃ w' : Wd, CL X.K w' tt σ H Q) (fun σ H Q => ∃ w' : Wd, EL X.K w' f σ H Q) (own.map (·.2))) (gName i)) := fun w => ps_setLc (spos := spos) hc hN hy hyl hsw (hi.run w) ok hg (fun s H C cl fp => ⟨fun p s' σ H' Q I' ⟨w', q⟩ => ((ht s H C cl fp).run w').run p s' σ H' Q I' q⟩) (fun s H C cl fp => ⟨fun p s' σ H' Q I' ⟨w', q⟩ => ((he s H C cl fp).run w').run p s' σ H' Q I' q⟩) hs
  refine ⟨fun w => PS.imp (hps w) ?_, fun A B e l q => mc _ _ _ (fun d e1 q1 => l.nx _ q1) q⟩
  rintro D σ H ⟨F, ad, e, R, q⟩
  exact tlc_comp hi.mono tk mt mf σ H (fun x H1 => gName i x σ H1 D.nx) ⟨F, ad, e, R, mc _ _ _ (fun d e1 q1 F1 ad1 H1 l xs s1 R1 z fr p => q1 F1 _ _ H1 (R1.setMu z fr p)) q⟩
theorem ds_setLc (s0 : Shared) (H0 : Hp) {elt tg iter : Expr} {ifs : List Expr} {scope : Scope} {own : List (Str × Nat)} {wi : DI} {gr : TG} {gd : DTg} {tt : DB} {i : Nat} {y : Str} {py spos : Pos} (hc : X.calm = true) (hN : X.N.Nodup) (hy : X.N[i]? = some y) (hyl : X.env.scope.names.lookup y = some .local)
    (hsw : swapsWith (.ListComp elt [⟨tg, iter, ifs, 0⟩] scope pos) (some (.Name y py)) spos.line X.env = pure true) (hi : DIt X tg iter wi) (ok : BlkOk X.N X.env.scope scope own)
    (hg : ∀ (s : Shared) (H : Hp) (C : Addr) (cl : List (Str × Addr)) (fp : List Addr), PG (X.blk s H scope (compEnvC scope cl C X.env) fp) tg gr) (tk : TgOk X.K (own.map (·.2)) gr gd)
    (ht : ∀ (s : Shared) (H : Hp) (C : Addr) (cl : List (Str × Addr)) (fp : List Addr), DTs (X.blk s H scope (compEnvC scope cl C X.env) fp) ifs tt)
    (he : ∀ (s : Shared) (H : Hp) (C : Addr) (cl : List (Str × Addr)) (fp : List Addr), DE (X.blk s H scope (compEnvC scope cl C X.env) fp) elt f)
    (hs : ∀ z, foldedSetIterable iter X.env z = pure z := by intro _; rfl) : DS X (.Assign [.Name y py] (.ListComp elt [⟨tg, iter, ifs, 0⟩] scope pos) spos) (dAsg (dFrz (dComp wi gd tt f (own.map (·.2)))) (dgName i)) := by
  have mt := (ht s0 H0 0 [] []).mono
  have mf := (he s0 H0 0 [] []).mono
  have mc : ∀ e (Q Q' : Ow → Env → Prop), (∀ d e', Q d e' → Q' d e') → dComp wi gd tt f (own.map (·.2)) e Q → dComp wi gd tt f (own.map (·.2)) e Q' := fun e Q Q' m q => hi.mono _ _ _ (fun ds e1 ⟨Pv, p0, h1, h2⟩ => ⟨Pv, p0, h1, fun acc e2 pi => m _ _ (h2 acc e2 pi)⟩) q
  have hps : ∀ w, PS X (.Assign [.Name y py] (.ListComp elt [⟨tg, iter, ifs, 0⟩] scope pos) spos) (tAsg (tLc (IL X.K w wi) gr (fun σ H Q => ∃ w' : Wd, CL X.K w' tt σ H Q) (fun σ H Q => ∃ w' : Wd, EL X.K w' f σ H Q) (own.map (·.2))) (gName i)) := fun w => ps_setLc (spos := spos) hc hN hy hyl hsw (hi.run w) ok hg (fun s H C cl fp => ⟨fun p s' σ H' Q I' ⟨w', q⟩ => ((ht s H C cl fp).run w').run p s' σ H' Q I' q⟩) (fun s H C cl fp => ⟨fun p s' σ H' Q I' ⟨w', q⟩ => ((he s H C cl fp).run w').run p s' σ H' Q I' q⟩) hs
  refine ⟨fun w => PS.imp (hps w) ?_, fun A B e l q => frz_mono mc _ _ _ (fun d e1 q1 => l.nx _ q1) q⟩
  rintro D σ H ⟨F, ad, e, R, q⟩
  have q : dComp wi gd tt f (own.map (·.2)) e (fun o e1 => match owD o with
    | some d => (endL X.K w D).nx (e1.set i (.im d))
    | none => False) := q
  have q2 : dComp wi gd tt f (own.map (·.2)) e (fun o e1 => ∃ ds, o = .lst ds ∧ (endL X.K w D).nx (e1.set i (.im (.list ds)))) := hi.mono _ _ _ (fun ds e1 ⟨Pv, p0, h1, h2⟩ => ⟨Pv, p0, h1, fun acc e2 pi => ⟨acc, rfl, h2 acc e2 pi⟩⟩) q
  refine tlc_comp hi.mono tk mt mf σ H (fun x H1 => gName i x σ H1 D.nx) ⟨F, ad, e, R, mc _ _ _ (fun o e1 q1 F1 ad1 H1 l xs s1 R1 z fr p => ?_) q2⟩
  obtain ⟨ds, rfl, q1⟩ := q1
  cases p with
  | lst r =>
    obtain ⟨R2, sm, dp⟩ := R1.adoptG (d := .list ds) z fr (.lst r) (fun F' h r' => by
      cases r' with
      | lst r' => exact .lst (Rd.of h) r')
    exact q1 _ ad1 _ H1 (R2.set dp)
end
end DL

/-! The D layer, part 5: what a def promises over pure data; its call; its body. -/
namespace DL
open PySem PySem.Spec PyProof.Rows L2

/-- but at a, what was not known data stands as before -/
def FrB (no : Addr → Prop) (F H F' H' : Hp) : Prop := ∀ b o, ¬ no b → H b = some o → F b = none → H' b = some o ∧ F' b = none
abbrev C0 := List D → (D → Prop) → Prop
abbrev C1 := Ow → List D → (D → Ow → Prop) → Prop
abbrev CF := List D → (Ow → Prop) → Prop
/-- data in, data out -/
def spD (K : PySem.W.Frag) (C : C0) : Sp := fun vs H Q _ => ∃ F ds, Same F H ∧ DqAll K F vs ds ∧ C ds fun d => ∀ F' H' v, Same F F' → Same F' H' → FrB (fun _ => False) F H F' H' → Dq K F' v d → Q v H'
/-- the first argument is a list that is lent, and changed -/
def spB (K : PySem.W.Frag) (C : C1) : Sp := fun vs H Q _ => ∃ F a xs cs us ds, vs = .ref a :: us ∧ Same F H ∧ H a = some xs ∧ F a = none ∧ OwR K F a xs cs ∧ DqAll K F us ds ∧
  C cs ds fun d cs' => ∀ F' H' v ys, Same F F' → Same F' H' → FrB (fun b => b = a) F H F' H' → H' a = some ys → F' a = none → OwR K F' a ys cs' → Dq K F' v d → Q v H'
/-- a new list out, the caller's own -/
def spF (K : PySem.W.Frag) (C : CF) : Sp := fun vs H Q _ => ∃ F ds, Same F H ∧ DqAll K F vs ds ∧ C ds fun es => ∀ F' H' a xs, Same F F' → Same F' H' → FrB (fun _ => False) F H F' H' → H a = none → H' a = some xs → F' a = none → OwR K F' a xs es → Q (.ref a) H'
def Mono0 (C : C0) : Prop := ∀ ds (P P' : D → Prop), (∀ d, P d → P' d) → C ds P → C ds P'
def Mono1 (C : C1) : Prop := ∀ cs ds (P P' : D → Ow → Prop), (∀ d c, P d c → P' d c) → C cs ds P → C cs ds P'
def MonoF (C : CF) : Prop := ∀ ds (P P' : Ow → Prop), (∀ d, P d → P' d) → C ds P → C ds P'

section
variable {K : PySem.W.Frag} {w : Wd} {F F' : Hp} {ad : Nat → Addr} {σ : L2.St} {H H' : Hp} {e : Env}
theorem Rel.called {no : Addr → Prop} (R : Rel K w F ad σ H e) (sm : Same F F') (sb : Same F' H') (fr : FrB no F H F' H') (n1 : ∀ b, no b → (∃ o, H' b = some o) ∧ (w.H0 b = none ∨ w.own b)) (n2 : ∀ (j : Nat) ds, e[j]? = some (.mu ds) → ¬ no (ad j)) (n3 : ∀ (j : Nat) ds, e[j]? = some (.bo ds) → ¬ no w.ba) : Rel K w F' ad σ H' e where
  sub := sb
  old := R.old.trans sm
  dom := fun b o q => by
    obtain ⟨o', q'⟩ := R.dom b o q
    cases hF : F b with
    | some u => exact ⟨u, sb b u (sm b u hF)⟩
    | none =>
      by_cases hn : no b
      · exact (n1 b hn).1
      · exact ⟨o', (fr b o' hn q' hF).1⟩
  fr := fun b o q1 q2 q3 => by
    obtain ⟨h1, h2⟩ := R.fr b o q1 q2 q3
    refine fr b o (fun hn => ?_) h1 h2
    rcases (n1 b hn).2 with z | z
    · rw [z] at q1; cases q1
    · exact q3 z
  len := R.len
  im := fun i d q => by obtain ⟨v, a1, a2⟩ := R.im i d q; exact ⟨v, a1, dp_mono sm _ _ a2⟩
  mu := fun i ds q => by
    obtain ⟨xs, a1, a2, a3, a4, a5⟩ := R.mu i ds q
    obtain ⟨b1, b2⟩ := fr _ _ (n2 i ds q) a2 a3
    exact ⟨xs, a1, b1, b2, ow_mono sm a4, a5⟩
  bo := fun i ds q => by
    obtain ⟨a0, xs, a1, a2, a3, a4⟩ := R.bo i ds q
    obtain ⟨b1, b2⟩ := fr _ _ (n3 i ds q) a2 a3
    exact ⟨a0, xs, a1, b1, b2, ow_mono sm a4⟩
  hbo := R.hbo
  inj := R.inj
  nbo := R.nbo
  ubo := R.ubo
theorem set_un {i : Nat} {j : Nat} {s : Sl} (h : (e.set i Sl.un)[j]? = some s) : s = .un ∨ (j ≠ i ∧ e[j]? = some s) := by
  rw [List.getElem?_set] at h
  by_cases z : i = j
  · rw [if_pos z] at h
    by_cases l : i < e.length
    · rw [if_pos l] at h; exact .inl (Option.some.inj h).symm
    · rw [if_neg l] at h; cases h
  · rw [if_neg z] at h; exact .inr ⟨fun q => z q.symm, h⟩
/-- a list that was lent to a call comes back -/
theorem Rel.lent {i : Nat} {cs : Ow} (R : Rel K w F ad σ H e) (own : slOwn e[i]? = some cs) :
    ∃ a xs, σ[i]? = some (some (.ref a)) ∧ H a = some xs ∧ F a = none ∧ OwR K F a xs cs ∧
      ∀ F' H' ys cs', Same F F' → Same F' H' → FrB (fun b => b = a) F H F' H' → H' a = some ys → F' a = none → OwR K F' a ys cs' → ∃ s, slPut e[i]? cs' = some s ∧ Rel K w F' ad σ H' (e.set i s) := by
  have R1 : Rel K w F ad σ H (e.set i .un) := R.forget (by rw [List.length_set]; exact R.len) fun j s h => by
    rcases set_un h with h | ⟨_, h⟩
    · exact .inl h
    · exact .inr ⟨h, rfl⟩
  cases z : e[i]? with
  | none => rw [z] at own; cases own
  | some s =>
    rw [z] at own
    have hlt : i < e.length := (List.getElem?_eq_some_iff.mp z).1
    cases s with
    | un => cases own
    | im d => cases own
    | mu ds =>
      cases own
      obtain ⟨xs, h1, h2, h3, h4, h5⟩ := R.mu i _ z
      refine ⟨_, xs, h1, h2, h3, h4, fun F' H' ys cs' sm sb fr e1 e2 p => ⟨_, rfl, ?_⟩⟩
      have Q := R1.called (no := fun b => b = ad i) sm sb fr (fun b hb => by subst hb; exact ⟨⟨_, e1⟩, h5⟩)
        (fun j ds q q' => by
          rcases set_un q with q | ⟨q1, q2⟩
          · cases q
          · exact q1 (R.inj _ _ _ _ q2 z q'))
        (fun j ds q q' => by
          rcases set_un q with q | ⟨q1, q2⟩
          · cases q
          · exact R.nbo i _ z (R.bo j _ q2).1 q'.symm)
      have st : ∀ (j : Nat) (s : Sl), (e.set i (.mu cs'))[j]? = some s → (j = i ∧ s = .mu cs') ∨ (j ≠ i ∧ (e.set i Sl.un)[j]? = some s) := fun j s q => by
        rw [List.getElem?_set] at q
        by_cases zz : i = j
        · subst zz
          rw [if_pos rfl, if_pos hlt] at q
          exact .inl ⟨rfl, (Option.some.inj q).symm⟩
        · rw [if_neg zz] at q
          exact .inr ⟨fun z' => zz z'.symm, by rw [List.getElem?_set, if_neg zz]; exact q⟩
      have ne : ∀ (j : Nat) es, j ≠ i → (e.set i Sl.un)[j]? = some (.mu es) → ad j ≠ ad i := fun j es hj q q' => by
        rcases set_un q with q | ⟨_, q2⟩
        · cases q
        · exact hj (R.inj _ _ _ _ q2 z q')
      exact {
        sub := Q.sub
        old := Q.old
        dom := Q.dom
        fr := Q.fr
        len := by rw [List.length_set]; exact R.len
        im := fun j d q => by
          rcases st j _ q with ⟨_, q2⟩ | ⟨_, q2⟩
          · cases q2
          · exact Q.im j d q2
        mu := fun j es q => by
          rcases st j _ q with ⟨ej, q2⟩ | ⟨_, q2⟩
          · cases q2; rw [ej]; exact ⟨ys, h1, e1, e2, p, h5⟩
          · exact Q.mu j es q2
        bo := fun j es q => by
          rcases st j _ q with ⟨_, q2⟩ | ⟨_, q2⟩
          · cases q2
          · exact Q.bo j es q2
        hbo := Q.hbo
        inj := fun j k es es' q q' zz => by
          rcases st j _ q with ⟨ej, _⟩ | ⟨nj, q2⟩
          · rcases st k _ q' with ⟨ek, _⟩ | ⟨nk, q2'⟩
            · rw [ej, ek]
            · rw [ej] at zz; exact absurd zz.symm (ne k _ nk q2')
          · rcases st k _ q' with ⟨ek, _⟩ | ⟨nk, q2'⟩
            · rw [ek] at zz; exact absurd zz (ne j _ nj q2)
            · exact Q.inj j k _ _ q2 q2' zz
        nbo := fun j es q hb => by
          rcases st j _ q with ⟨ej, _⟩ | ⟨_, q2⟩
          · rw [ej]; exact R.nbo i _ z hb
          · exact Q.nbo j es q2 hb
        ubo := fun j k es es' q q' => by
          rcases st j _ q with ⟨_, q2⟩ | ⟨_, q2⟩
          · cases q2
          · rcases st k _ q' with ⟨_, q2'⟩ | ⟨_, q2'⟩
            · cases q2'
            · exact Q.ubo j k _ _ q2 q2' }
    | bo ds =>
      cases own
      obtain ⟨h0, xs, h1, h2, h3, h4⟩ := R.bo i _ z
      refine ⟨_, xs, h1, h2, h3, h4, fun F' H' ys cs' sm sb fr e1 e2 p => ⟨_, rfl, ?_⟩⟩
      have Q := R1.called (no := fun b => b = w.ba) sm sb fr (fun b hb => by subst hb; exact ⟨⟨_, e1⟩, .inr (R.hbo h0).1⟩)
        (fun j ds q q' => by
          rcases set_un q with q | ⟨q1, q2⟩
          · cases q
          · exact R.nbo j _ q2 h0 q')
        (fun j ds q q' => by
          rcases set_un q with q | ⟨q1, q2⟩
          · cases q
          · exact q1 (R.ubo _ _ _ _ q2 z))
      have st : ∀ (j : Nat) (s : Sl), (e.set i (.bo cs'))[j]? = some s → (j = i ∧ s = .bo cs') ∨ (j ≠ i ∧ (e.set i Sl.un)[j]? = some s) := fun j s q => by
        rw [List.getElem?_set] at q
        by_cases zz : i = j
        · subst zz
          rw [if_pos rfl, if_pos hlt] at q
          exact .inl ⟨rfl, (Option.some.inj q).symm⟩
        · rw [if_neg zz] at q
          exact .inr ⟨fun z' => zz z'.symm, by rw [List.getElem?_set, if_neg zz]; exact q⟩
      have nob : ∀ (j : Nat) es, j ≠ i → (e.set i Sl.un)[j]? = some (.bo es) → False := fun j es hj q => by
        rcases set_un q with q | ⟨_, q2⟩
        · cases q
        · exact hj (R.ubo _ _ _ _ q2 z)
      exact {
        sub := Q.sub
        old := Q.old
        dom := Q.dom
        fr := Q.fr
        len := by rw [List.length_set]; exact R.len
        im := fun j d q => by
          rcases st j _ q with ⟨_, q2⟩ | ⟨_, q2⟩
          · cases q2
          · exact Q.im j d q2
        mu := fun j es q => by
          rcases st j _ q with ⟨_, q2⟩ | ⟨_, q2⟩
          · cases q2
          · exact Q.mu j es q2
        bo := fun j es q => by
          rcases st j _ q with ⟨ej, q2⟩ | ⟨nj, q2⟩
          · cases q2; rw [ej]; exact ⟨h0, ys, h1, e1, e2, p⟩
          · exact (nob j _ nj q2).elim
        hbo := Q.hbo
        inj := fun j k es es' q q' => by
          rcases st j _ q with ⟨_, q2⟩ | ⟨_, q2⟩
          · cases q2
          · rcases st k _ q' with ⟨_, q2'⟩ | ⟨_, q2'⟩
            · cases q2'
            · exact Q.inj j k _ _ q2 q2'
        nbo := fun j es q hb => by
          rcases st j _ q with ⟨_, q2⟩ | ⟨_, q2⟩
          · cases q2
          · exact Q.nbo j es q2 hb
        ubo := fun j k es es' q q' => by
          rcases st j _ q with ⟨ej, _⟩ | ⟨nj, q2⟩
          · rcases st k _ q' with ⟨ek, _⟩ | ⟨nk, q2'⟩
            · rw [ej, ek]
            · exact (nob k _ nk q2').elim
          · exact (nob j _ nj q2).elim }
end

/-! ### calls -/
section
variable {X : Cx} {x : Expr} {es : List Expr} {r : DA}
def dCall (C : C0) (r : DA) : DT := fun e Q => r e fun ds e1 => C ds fun d => Q d e1
theorem de_call {C : C0} (hC : Mono0 C) (hr : DAr X es r) (hp : ∀ ta, PA X es ta → PE X x (tCall (spD X.K C) [] E0 ta)) : DE X x (dCall C r) := by
  refine ⟨fun w => PE.imp (hp _ (hr.run w)) ?_, fun e Q Q' m q => hr.mono _ _ _ (fun ds e1 q1 => hC _ _ _ (fun d q2 => m _ _ q2) q1) q⟩
  rintro σ H Q ⟨F, ad, e, R, q⟩
  refine ⟨F, ad, e, R, hr.mono _ _ _ (fun ds e1 q1 F1 ad1 H1 vs s1 R1 p1 => ?_) q⟩
  refine ⟨F1, ds, R1.sub, by rw [List.append_nil]; exact p1, hC _ _ _ (fun d q2 F2 H2 v sm sb fr p => ?_) q1⟩
  exact q2 F2 ad1 H2 v (s1.trans sm) (R1.called sm sb fr (fun b hb => hb.elim) (fun _ _ _ hb => hb) (fun _ _ _ hb => hb)) p
def dFCall (C : CF) (r : DA) : DF := fun e Q => r e fun ds e1 => C ds fun es => Q es e1
theorem df_call {C : CF} (hC : MonoF C) (hr : DAr X es r) (hp : ∀ ta, PA X es ta → PE X x (tCall (spF X.K C) [] E0 ta)) : DFe X x (dFCall C r) := by
  refine ⟨fun w => PE.imp (hp _ (hr.run w)) ?_, fun e Q Q' m q => hr.mono _ _ _ (fun ds e1 q1 => hC _ _ _ (fun d q2 => m _ _ q2) q1) q⟩
  rintro σ H Q ⟨F, ad, e, R, q⟩
  refine ⟨F, ad, e, R, hr.mono _ _ _ (fun ds e1 q1 F1 ad1 H1 vs s1 R1 p1 => ?_) q⟩
  refine ⟨F1, ds, R1.sub, by rw [List.append_nil]; exact p1, hC _ _ _ (fun es q2 F2 H2 a xs sm sb fr ha hl hf p => ?_) q1⟩
  refine q2 F2 ad1 H2 a xs (s1.trans sm) (R1.called sm sb fr (fun b hb => hb.elim) (fun _ _ _ hb => hb) (fun _ _ _ hb => hb)) hl ⟨hf, ?_, fun j ds z z' => ?_, fun hb z => ?_⟩ p
  · cases z : w.H0 a with
    | none => rfl
    | some o => obtain ⟨o', h'⟩ := R1.dom a o z; rw [ha] at h'; cases h'
  · obtain ⟨_, _, h2, _⟩ := R1.mu j ds z
    rw [z', ha] at h2; cases h2
  · obtain ⟨_, o, h'⟩ := R1.hbo hb
    obtain ⟨o', h2⟩ := R1.dom _ o h'
    rw [← z, ha] at h2; cases h2
/-- f(x, ..): x a name, its list is lent -/
def dCallL (i : Nat) (C : C1) (r : DA) : DT := fun e Q => (∃ cs, slOwn e[i]? = some cs) ∧ r e fun ds e1 => match slOwn e1[i]? with
  | some cs => C cs ds fun d cs' => ∀ s, slPut e1[i]? cs' = some s → Q d (e1.set i s)
  | none => False
theorem de_callL {i : Nat} {C : C1} (hC : Mono1 C) (hr : DAr X es r) (hp : ∀ ta, PA X es ta → PE X x (tCall (spB X.K C) [] E0 (tCons (tVar i) ta))) : DE X x (dCallL i C r) := by
  refine ⟨fun w => PE.imp (hp _ (hr.run w)) ?_, fun e Q Q' m q => ⟨q.1, hr.mono _ _ _ (fun ds e1 q1 => ?_) q.2⟩⟩
  · rintro σ H Q ⟨F, ad, e, R, ⟨cs0, q0⟩, q⟩
    obtain ⟨a0, xs0, h0, _⟩ := R.lent q0
    refine ⟨_, h0, F, ad, e, R, hr.mono _ _ _ (fun ds e1 q1 F1 ad1 H1 vs s1 R1 p1 => ?_) q⟩
    cases z : slOwn e1[i]? with
    | none => rw [z] at q1; exact q1.elim
    | some cs =>
      rw [z] at q1
      obtain ⟨a, xs, g1, g2, g3, g4, back⟩ := R1.lent z
      rw [h0] at g1
      cases g1
      refine ⟨F1, a0, xs, cs, vs, ds, by rw [List.append_nil], R1.sub, g2, g3, g4, p1, hC _ _ _ _ (fun d cs' q2 F2 H2 v ys sm sb fr hl hf py p => ?_) q1⟩
      obtain ⟨s, hs, R2⟩ := back F2 H2 ys cs' sm sb fr hl hf py
      exact q2 s hs F2 ad1 H2 v (s1.trans sm) R2 p
  · cases z : slOwn e1[i]? with
    | none => rw [z] at q1; exact q1.elim
    | some cs => rw [z] at q1; exact hC _ _ _ _ (fun d cs' q2 s hs => m _ _ (q2 s hs)) q1
end

/-! ### defs -/
abbrev MonoS (t : DSt) : Prop := ∀ (A B : DEnds) e, A.le B → t A e → t B e
def startE (N : List Str) (ds : List D) : Env := ds.map Sl.im ++ List.replicate (N.length - ds.length) Sl.un
def startB (N : List Str) (cs : Ow) (ds : List D) : Env := Sl.bo cs :: ds.map Sl.im ++ List.replicate (N.length - (ds.length + 1)) Sl.un
theorem un_tail {n j : Nat} {s : Sl} (h : (List.replicate n Sl.un)[j]? = some s) : s = .un := by
  rw [List.getElem?_replicate] at h
  by_cases l : j < n
  · rw [if_pos l] at h; exact (Option.some.inj h).symm
  · rw [if_neg l] at h; cases h
theorem start_at {N : List Str} {ds : List D} {j : Nat} {s : Sl} (h : (startE N ds)[j]? = some s) : s = .un ∨ ∃ d, ds[j]? = some d ∧ s = .im d := by
  unfold startE at h
  by_cases l : j < ds.length
  · rw [List.getElem?_append_left (by rw [List.length_map]; exact l), List.getElem?_map] at h
    rw [List.getElem?_eq_getElem l] at h ⊢
    exact .inr ⟨_, rfl, (Option.some.inj h).symm⟩
  · rw [List.getElem?_append_right (by rw [List.length_map]; omega)] at h
    exact .inl (un_tail h)
theorem rel_start {K : PySem.W.Frag} {F H : Hp} {N : List Str} {vs : List V} {ds : List D} (s : Same F H) (p : DqAll K F vs ds) (l : vs.length ≤ N.length) :
    Rel K ⟨F, H, fun _ => False, 0, False⟩ F (fun _ => 0) (L2.start N vs) H (startE N ds) where
  sub := s
  old := Same.refl F
  dom := fun b o q => ⟨o, q⟩
  fr := fun b o q1 q2 _ => ⟨q1, q2⟩
  len := by
    have := dpAll_len p
    unfold L2.start startE
    rw [List.length_append, List.length_append, List.length_map, List.length_map, List.length_replicate, List.length_replicate]
    omega
  im := fun j d q => by
    rcases start_at q with z | ⟨d', z1, z2⟩
    · cases z
    · cases z2
      obtain ⟨v, h1, h2⟩ := dpAll_got p z1
      refine ⟨v, ?_, h2⟩
      unfold L2.start
      have lj : j < vs.length := (List.getElem?_eq_some_iff.mp h1).1
      rw [List.getElem?_append_left (by rw [List.length_map]; exact lj), List.getElem?_map, h1]
      rfl
  mu := fun j d q => by
    rcases start_at q with z | ⟨d', z1, z2⟩
    · cases z
    · cases z2
  bo := fun j d q => by
    rcases start_at q with z | ⟨d', z1, z2⟩
    · cases z
    · cases z2
  hbo := fun h => h.elim
  inj := fun j k d d' q => by
    rcases start_at q with z | ⟨d', z1, z2⟩
    · cases z
    · cases z2
  nbo := fun j d q h => h.elim
  ubo := fun j k d d' q => by
    rcases start_at q with z | ⟨d', z1, z2⟩
    · cases z
    · cases z2
theorem startB_at {N : List Str} {cs : Ow} {ds : List D} {j : Nat} {s : Sl} (h : (startB N cs ds)[j]? = some s) : s = .un ∨ (j = 0 ∧ s = .bo cs) ∨ ∃ k d, j = k + 1 ∧ ds[k]? = some d ∧ s = .im d := by
  cases j with
  | zero => exact .inr (.inl ⟨rfl, (Option.some.inj h).symm⟩)
  | succ k =>
    have h' : (ds.map Sl.im ++ List.replicate (N.length - (ds.length + 1)) Sl.un)[k]? = some s := h
    by_cases l : k < ds.length
    · rw [List.getElem?_append_left (by rw [List.length_map]; exact l), List.getElem?_map] at h'
      rw [List.getElem?_eq_getElem l] at h'
      exact .inr (.inr ⟨k, _, rfl, List.getElem?_eq_getElem l, (Option.some.inj h').symm⟩)
    · rw [List.getElem?_append_right (by rw [List.length_map]; omega)] at h'
      exact .inl (un_tail h')
theorem relB_start {K : PySem.W.Frag} {F H : Hp} {N : List Str} {a : Addr} {xs : HO} {cs : Ow} {vs : List V} {ds : List D} (s : Same F H) (hH : H a = some xs) (hF : F a = none) (pc : OwR K F a xs cs) (p : DqAll K F vs ds) (l : vs.length + 1 ≤ N.length) :
    Rel K ⟨F, H, fun b => b = a, a, True⟩ F (fun _ => 0) (L2.start N (.ref a :: vs)) H (startB N cs ds) where
  sub := s
  old := Same.refl F
  dom := fun b o q => ⟨o, q⟩
  fr := fun b o q1 q2 _ => ⟨q1, q2⟩
  len := by
    have := dpAll_len p
    unfold L2.start startB
    simp only [List.length_append, List.length_map, List.length_cons, List.length_replicate]
    omega
  im := fun j d q => by
    rcases startB_at q with z | ⟨_, z⟩ | ⟨k, d', z0, z1, z2⟩
    · cases z
    · cases z
    · cases z2
      subst z0
      obtain ⟨v, h1, h2⟩ := dpAll_got p z1
      refine ⟨v, ?_, h2⟩
      have lj : k < vs.length := (List.getElem?_eq_some_iff.mp h1).1
      show (vs.map some ++ List.replicate (N.length - (V.ref a :: vs).length) none)[k]? = _
      rw [List.getElem?_append_left (by rw [List.length_map]; exact lj), List.getElem?_map, h1]
      rfl
  mu := fun j d q => by
    rcases startB_at q with z | ⟨_, z⟩ | ⟨k, d', z0, z1, z2⟩
    · cases z
    · cases z
    · cases z2
  bo := fun j d q => by
    rcases startB_at q with z | ⟨z0, z⟩ | ⟨k, d', z0, z1, z2⟩
    · cases z
    · cases z; subst z0; exact ⟨trivial, xs, rfl, hH, hF, pc⟩
    · cases z2
  hbo := fun _ => ⟨rfl, _, hH⟩
  inj := fun j k d d' q => by
    rcases startB_at q with z | ⟨_, z⟩ | ⟨k, d', z0, z1, z2⟩
    · cases z
    · cases z
    · cases z2
  nbo := fun j d q => by
    rcases startB_at q with z | ⟨_, z⟩ | ⟨k, d', z0, z1, z2⟩
    · cases z
    · cases z
    · cases z2
  ubo := fun j k d d' q q' => by
    rcases startB_at q with z | ⟨z0, _⟩ | ⟨k, d', z0, z1, z2⟩
    · cases z
    · rcases startB_at q' with z | ⟨z0', _⟩ | ⟨k, d', z0, z1, z2⟩
      · cases z
      · rw [z0, z0']
      · cases z2
    · cases z2
section
variable {P : Program} {w : World} {K : PySem.W.Frag} {mg : Str → Option Value} {base : Heap} {x qual : Str} {st : Stmt} {f : Addr} {fd : FuncData} {N ps : List Str} {k : Nat}
abbrev bodyCx (P : Program) (w : World) (K : PySem.W.Frag) (mg : Str → Option Value) (base : Heap) (N : List Str) (qual : Str) (st : Stmt) (f : Addr) (cdv : Value) (A : Around) (outer : List PySem.Env) (s : Shared) (H : Hp) (E : XK) : Cx :=
  (cxOf CX0 P w K mg base N qual (defScope st) f cdv A outer s H E).nox
abbrev bodyRoom (k : Nat) (qual : Str) (st : Stmt) (f : Addr) (cdv : Value) (A : Around) (s : Shared) : Prop := Room k (A.deeper (envOfC qual (defScope st) s.heap.objs.size f cdv))
theorem ps_le (S : FnScope N ps (defScope st)) : ps.length ≤ N.length := by
  have := S.pre
  rw [← this, List.length_take]
  omega
theorem ok_D (F : Fun K x qual st f fd) (S : FnScope N ps (defScope st)) (C : C0) (t : DSt) (len : ∀ ds P, C ds P → ds.length = ps.length)
    (body : ∀ cdv A outer s H E, bodyRoom k qual st f cdv A s → DSs (bodyCx P w K mg base N qual st f cdv A outer s H E) (defBody st) t)
    (read : MonoS t → ∀ ds P, C ds P → t { nx := fun _ => P .none, rt := fun d _ => P d } (startE N ds)) : FnOk P w K mg base CX0 (k + 1) f fd ps (spD K C) := by
  refine F.ok S (fun vs H Q E h => ?_) (fun cdv A outer s H vs Q E hr h => ?_)
  · obtain ⟨G, ds, _, p, c⟩ := h
    rw [dpAll_len p]
    exact len _ _ c
  · obtain ⟨G, ds, sm, p, c⟩ := h
    have B := body cdv A outer s H E hr
    refine ⟨SL K ⟨G, H, fun _ => False, 0, False⟩ t, B.run _, G, fun _ => 0, startE N ds, rel_start sm p ?_, B.mono _ _ _ ⟨?_, ?_, ?_, ?_, ?_⟩ (read B.mono ds _ c)⟩
    · rw [dpAll_len p, len _ _ c]; exact ps_le S
    · intro e q F' ad' σ' H' R'
      exact q F' H' _ R'.old R'.sub (fun b o _ h1 h2 => R'.fr b o h1 h2 (fun z => z)) .non
    · intro d e q F' ad' σ' H' v R' pv
      exact q F' H' v R'.old R'.sub (fun b o _ h1 h2 => R'.fr b o h1 h2 (fun z => z)) pv
    · intro _ _ q; exact q.elim
    · intro _ q; exact q.elim
    · intro _ q; exact q.elim
theorem ok_F (F : Fun K x qual st f fd) (S : FnScope N ps (defScope st)) (C : CF) (t : DSt) (len : ∀ ds P, C ds P → ds.length = ps.length)
    (body : ∀ cdv A outer s H E, bodyRoom k qual st f cdv A s → DSs (bodyCx P w K mg base N qual st f cdv A outer s H E) (defBody st) t)
    (read : MonoS t → ∀ ds P, C ds P → t { nx := fun _ => False, rt := fun _ _ => False, rf := fun es _ => P es } (startE N ds)) : FnOk P w K mg base CX0 (k + 1) f fd ps (spF K C) := by
  refine F.ok S (fun vs H Q E h => ?_) (fun cdv A outer s H vs Q E hr h => ?_)
  · obtain ⟨G, ds, _, p, c⟩ := h
    rw [dpAll_len p]
    exact len _ _ c
  · obtain ⟨G, ds, sm, p, c⟩ := h
    have B := body cdv A outer s H E hr
    refine ⟨SL K ⟨G, H, fun _ => False, 0, False⟩ t, B.run _, G, fun _ => 0, startE N ds, rel_start sm p ?_, B.mono _ _ _ ⟨?_, ?_, ?_, ?_, ?_⟩ (read B.mono ds _ c)⟩
    · rw [dpAll_len p, len _ _ c]; exact ps_le S
    · intro _ q; exact q.elim
    · intro _ _ q; exact q.elim
    · intro es e q F' ad' σ' H' a xs R' hl fr pv
      exact q F' H' a xs R'.old R'.sub (fun b o _ h1 h2 => R'.fr b o h1 h2 (fun z => z)) fr.f0 hl fr.fF pv
    · intro _ q; exact q.elim
    · intro _ q; exact q.elim
/-- what a body that was lent a list ends with -/
def lentEnd (P : D → Ow → Prop) (d : D) (e : Env) : Prop := match e[(0 : Nat)]? with
  | some (.bo cs) => P d cs
  | _ => False
theorem lent_out {P : D → Ow → Prop} {d : D} {e : Env} (h : lentEnd P d e) : ∃ cs, e[(0 : Nat)]? = some (.bo cs) ∧ P d cs := by
  unfold lentEnd at h
  split at h
  · exact ⟨_, by assumption, h⟩
  · exact h.elim
theorem ok_B (F : Fun K x qual st f fd) (S : FnScope N ps (defScope st)) (C : C1) (t : DSt) (len : ∀ cs ds P, C cs ds P → ds.length + 1 = ps.length)
    (body : ∀ cdv A outer s H E, bodyRoom k qual st f cdv A s → DSs (bodyCx P w K mg base N qual st f cdv A outer s H E) (defBody st) t)
    (read : MonoS t → ∀ cs ds P, C cs ds P → t { nx := fun e => lentEnd P .none e, rt := lentEnd P } (startB N cs ds)) : FnOk P w K mg base CX0 (k + 1) f fd ps (spB K C) := by
  refine F.ok S (fun vs H Q E h => ?_) (fun cdv A outer s H vs Q E hr h => ?_)
  · obtain ⟨G, a, xs, cs, us, ds, rfl, _, _, _, _, p, c⟩ := h
    rw [List.length_cons, dpAll_len p]
    exact len _ _ _ c
  · obtain ⟨G, a, xs, cs, us, ds, rfl, sm, hH, hF, pc, p, c⟩ := h
    have B := body cdv A outer s H E hr
    refine ⟨SL K ⟨G, H, fun b => b = a, a, True⟩ t, B.run _, G, fun _ => 0, startB N cs ds, relB_start sm hH hF pc p ?_, B.mono _ _ _ ⟨?_, ?_, ?_, ?_, ?_⟩ (read B.mono cs ds _ c)⟩
    · rw [dpAll_len p, len _ _ _ c]; exact ps_le S
    · intro e q0 F' ad' σ' H' R'
      dsimp only at q0
      obtain ⟨cs', z, q⟩ := lent_out q0
      obtain ⟨_, ys, _, h2, h3, h4⟩ := R'.bo 0 _ z
      exact q F' H' _ ys R'.old R'.sub (fun b o hb h1 h2 => R'.fr b o h1 h2 hb) h2 h3 h4 .non
    · intro d e q0 F' ad' σ' H' v R' pv
      dsimp only at q0
      obtain ⟨cs', z, q⟩ := lent_out q0
      obtain ⟨_, ys, _, h2, h3, h4⟩ := R'.bo 0 _ z
      exact q F' H' v ys R'.old R'.sub (fun b o hb h1 h2 => R'.fr b o h1 h2 hb) h2 h3 h4 pv
    · intro _ _ q; exact q.elim
    · intro _ q; exact q.elim
    · intro _ q; exact q.elim
end
end DL

/-! The D layer, part 6: short words for derivations. -/
namespace DL
open PySem PySem.Spec PyProof.Rows L2

/-- a def of the text that stands where its name says -/
structure DefAt (K : PySem.W.Frag) (mg : Str → Option Value) (x : Str) (st : Stmt) (ps : List Str) : Prop where
  ex : ∃ f fd, Fun K x x st f fd ∧ mg x = some (.ref f) ∧ Binds K fd ps []
/-- a def that keeps a promise, called by its name -/
structure Cal (P : Program) (w : World) (K : PySem.W.Frag) (mg : Str → Option Value) (base : Heap) (k : Nat) (x : Str) (sp : Sp) : Prop where
  ex : ∃ f fd ps, mg x = some (.ref f) ∧ PySem.W.keepIn K (.ref f) = true ∧ Binds K fd ps [] ∧ FnOk P w K mg base CX0 k f fd ps sp
section
variable {P : Program} {w : World} {K : PySem.W.Frag} {mg : Str → Option Value} {base : Heap} {x : Str} {st : Stmt} {N ps : List Str} {k : Nat}
theorem cal_D (A : DefAt K mg x st ps) (S : FnScope N ps (defScope st)) (C : C0) (t : DSt) (len : ∀ ds P, C ds P → ds.length = ps.length)
    (body : ∀ f cdv A outer s H E, bodyRoom k x st f cdv A s → DSs (bodyCx P w K mg base N x st f cdv A outer s H E) (defBody st) t)
    (read : MonoS t → ∀ ds P, C ds P → t { nx := fun _ => P .none, rt := fun d _ => P d } (startE N ds)) : Cal P w K mg base (k + 1) x (spD K C) := by
  obtain ⟨f, fd, F, m, b⟩ := A.ex
  exact ⟨f, fd, ps, m, F.kp, b, ok_D F S C t len (body f) read⟩
theorem cal_F (A : DefAt K mg x st ps) (S : FnScope N ps (defScope st)) (C : CF) (t : DSt) (len : ∀ ds P, C ds P → ds.length = ps.length)
    (body : ∀ f cdv A outer s H E, bodyRoom k x st f cdv A s → DSs (bodyCx P w K mg base N x st f cdv A outer s H E) (defBody st) t)
    (read : MonoS t → ∀ ds P, C ds P → t { nx := fun _ => False, rt := fun _ _ => False, rf := fun es _ => P es } (startE N ds)) : Cal P w K mg base (k + 1) x (spF K C) := by
  obtain ⟨f, fd, F, m, b⟩ := A.ex
  exact ⟨f, fd, ps, m, F.kp, b, ok_F F S C t len (body f) read⟩
theorem cal_B (A : DefAt K mg x st ps) (S : FnScope N ps (defScope st)) (C : C1) (t : DSt) (len : ∀ cs ds P, C cs ds P → ds.length + 1 = ps.length)
    (body : ∀ f cdv A outer s H E, bodyRoom k x st f cdv A s → DSs (bodyCx P w K mg base N x st f cdv A outer s H E) (defBody st) t)
    (read : MonoS t → ∀ cs ds P, C cs ds P → t { nx := fun e => lentEnd P .none e, rt := lentEnd P } (startB N cs ds)) : Cal P w K mg base (k + 1) x (spB K C) := by
  obtain ⟨f, fd, F, m, b⟩ := A.ex
  exact ⟨f, fd, ps, m, F.kp, b, ok_B F S C t len (body f) read⟩
end
section
variable {X : Cx} {x : Str} {k : Nat} {e : Expr} {es : List Expr} {r : DA} {p pos : Pos}
/-- f(..) -/
theorem calD {C : C0} (h : Cal X.prog X.w X.K X.mg X.base k x (spD X.K C)) (hr : Room k X.A) (hC : Mono0 C) (ha : DAr X (e :: es) r) (hg : Gl X x := by rfl) (hdb : (x == ("__debug__" : Str)) = false := by decide)
    (he : starEach (e :: es) X.env = (false, eval e X.env) :: starEach es X.env := by rfl) (hpl : (backTo pos (starEach es X.env)).any (·.1) = false := by rfl) : DE X (.Call (.Name x p) (e :: es) [] pos) (dCall C r) := by
  obtain ⟨f, fd, ps, m, kp, b, F⟩ := h.ex
  exact de_call hC ha fun ta h => pe_call F hr hg m kp b .nil pass0 h hdb he hpl
theorem calD0 {C : C0} (h : Cal X.prog X.w X.K X.mg X.base k x (spD X.K C)) (hr : Room k X.A) (hC : Mono0 C) (hg : Gl X x := by rfl) (hdb : (x == ("__debug__" : Str)) = false := by decide) : DE X (.Call (.Name x p) [] [] pos) (dCall C dNil) := by
  obtain ⟨f, fd, ps, m, kp, b, F⟩ := h.ex
  refine ⟨fun w => PE.imp (pe_call0 F hr hg m kp b .nil pass0 hdb) ?_, fun e Q Q' m q => hC _ _ _ (fun d q2 => m _ _ q2) q⟩
  rintro σ H Q ⟨G, ad, e, R, q⟩
  exact ⟨G, [], R.sub, .nil, hC _ _ _ (fun d q2 F2 H2 v sm sb fr p => q2 F2 ad H2 v sm (R.called sm sb fr (fun b hb => hb.elim) (fun _ _ _ hb => hb) (fun _ _ _ hb => hb)) p) q⟩
/-- f(..) that gives a list of the caller's own -/
theorem calF {C : CF} (h : Cal X.prog X.w X.K X.mg X.base k x (spF X.K C)) (hr : Room k X.A) (hC : MonoF C) (ha : DAr X (e :: es) r) (hg : Gl X x := by rfl) (hdb : (x == ("__debug__" : Str)) = false := by decide)
    (he : starEach (e :: es) X.env = (false, eval e X.env) :: starEach es X.env := by rfl) (hpl : (backTo pos (starEach es X.env)).any (·.1) = false := by rfl) : DFe X (.Call (.Name x p) (e :: es) [] pos) (dFCall C r) := by
  obtain ⟨f, fd, ps, m, kp, b, F⟩ := h.ex
  exact df_call hC ha fun ta h => pe_call F hr hg m kp b .nil pass0 h hdb he hpl
/-- f(x, ..), x's list lent -/
theorem calL {C : C1} (i : Nat) (h : Cal X.prog X.w X.K X.mg X.base k x (spB X.K C)) (hr : Room k X.A) (hC : Mono1 C) (hv : PE X e (tVar i)) (ha : DAr X es r) (hg : Gl X x := by rfl) (hdb : (x == ("__debug__" : Str)) = false := by decide)
    (he : starEach (e :: es) X.env = (false, eval e X.env) :: starEach es X.env := by rfl) (hpl : (backTo pos (starEach es X.env)).any (·.1) = false := by rfl) : DE X (.Call (.Name x p) (e :: es) [] pos) (dCallL i C r) := by
  obtain ⟨f, fd, ps, m, kp, b, F⟩ := h.ex
  exact de_callL hC ha fun ta h => pe_call F hr hg m kp b .nil pass0 (pa_cons hv h he) hdb he hpl
end

/-! ### promises by plain functions -/
/-- the arguments are args a, a as told by pre; the answer is res a -/
def fnC {α : Type} (pre : α → Prop) (args : α → List D) (res : α → D) : C0 := fun ds P => ∃ a, ds = args a ∧ pre a ∧ P (res a)
theorem fnC_mono {α : Type} {pre : α → Prop} {args : α → List D} {res : α → D} : Mono0 (fnC pre args res) := fun ds P P' m ⟨a, h1, h2, h3⟩ => ⟨a, h1, h2, m _ h3⟩
/-- .. with a lent list, told by cs, that ends as told by res -/
def fnL {α : Type} (pre : α → Prop) (cs : α → Ow) (args : α → List D) (res : α → D) (cs' : α → Ow) : C1 := fun c ds P => ∃ a, c = cs a ∧ ds = args a ∧ pre a ∧ P (res a) (cs' a)
theorem fnL_mono {α : Type} {pre : α → Prop} {cs : α → Ow} {args : α → List D} {res : α → D} {cs' : α → Ow} : Mono1 (fnL pre cs args res cs') := fun c ds P P' m ⟨a, h1, h2, h3, h4⟩ => ⟨a, h1, h2, h3, m _ _ h4⟩
def fnF {α : Type} (pre : α → Prop) (args : α → List D) (res : α → Ow) : CF := fun ds P => ∃ a, ds = args a ∧ pre a ∧ P (res a)
theorem fnF_mono {α : Type} {pre : α → Prop} {args : α → List D} {res : α → Ow} : MonoF (fnF pre args res) := fun ds P P' m ⟨a, h1, h2, h3⟩ => ⟨a, h1, h2, m _ h3⟩

/-! ### isinstance of a built-in class -/
def tyName : D → String
  | .none => "NoneType"
  | .bool _ => "bool"
  | .int _ => "int"
  | .str _ => "str"
  | .list _ => "list"
  | .tuple _ => "tuple"
  | .dict [(.none, .list _)] => "list"
  | .dict [(.bool true, .tuple (.int _ :: _))] => ""
  | .dict _ => "dict"
section
variable {X : Cx} {x a b : Expr} {f : DT}
theorem tyName_dct {K : PySem.W.Frag} {F : Hp} {kvs : List (Key × V)} {ds : List (D × D)} (p : DqKv K F kvs ds) : tyName (.dict ds) = "dict" := by
  cases p with
  | nil => rfl
  | @cons k v kd d vs cs h0 _ _ => subst h0; cases k <;> rfl
theorem kitB_empty {T : String} (h : T ≠ "") : kitB "" T = none := by
  unfold kitB
  rw [if_neg (fun z => h (by have z' := eq_of_beq z; injection z' with z'; exact z'.symm))]
  split
  · rw [show PySem.fastBuiltinMro "" = none by decide +kernel]; rfl
  · rfl
theorem tyX_of {K : PySem.W.Frag} {F H : Hp} {v : V} {d : D} (s : Same F H) (p : Dq K F v d) (hn : tyName d ≠ "") : TyX K H v (.type (tyName d)) := by
  cases p with
  | non => exact .base .non
  | bl b => exact .base (.bl b)
  | int i => exact .base (.int i)
  | str z => exact .base (.str z)
  | lst h _ =>
    rcases rd_mono s h with h | ⟨o, h⟩
    · exact .base (.lst h)
    · exact .base (.frz h)
  | tup h _ =>
    rcases sqT_mono s h with (h | ⟨o, h⟩) | ⟨o, its, n, h1, h2, _⟩
    · exact .base (.tup h)
    · exact .fTuple h
    · exact .kTuple h1 h2
  | scr h _ =>
    rcases s.seq h with (h | ⟨o, h⟩) | ⟨o, its, n, h1, h2, _⟩
    · exact .base (.lst h)
    · exact .base (.frz h)
    · exact .kList h1 h2
  | dct h k =>
    rw [tyName_dct k]
    exact .fDict (s _ _ h)
  | obj _ _ _ _ => exact absurd rfl hn
def dIsi (T : String) (f : DT) : DT := fun e Q => f e fun d e1 => match kitB (tyName d) T with
  | some k => Q (.bool k) e1
  | none => False
theorem de_isi {T : String} (ha : DE X a f) (hb : PE X b (tC (.ty T))) (hp : ∀ ta, PA X [a, b] ta → PE X x (tCB (rIsi X.K) ta)) (h1 : starEach (a :: [b]) X.env = (false, eval a X.env) :: starEach [b] X.env := by rfl) (h2 : starEach (b :: []) X.env = (false, eval b X.env) :: starEach [] X.env := by rfl) (hT : T ≠ "" := by decide) : DE X x (dIsi T f) := by
  refine ⟨fun w => PE.imp (hp _ (pa_cons (ha.run w) (pa_cons hb pa_nil h2) h1)) ?_, fun e Q Q' m q => ha.mono _ _ _ (fun d e1 q1 => ?_) q⟩
  · rintro σ H Q ⟨F, ad, e, R, q⟩
    refine ⟨F, ad, e, R, ha.mono _ _ _ (fun d e1 q1 F1 ad1 H1 v s1 R1 p1 => ?_) q⟩
    cases z : kitB (tyName d) T with
    | none => rw [z] at q1; exact q1.elim
    | some k =>
      rw [z] at q1
      exact ⟨v, _, _, _, k, rfl, .ty T, tyX_of R1.sub p1 (fun zn => by rw [zn, kitB_empty hT] at z; cases z), kit_ty z, q1 F1 ad1 H1 _ s1 R1 (.bl k)⟩
  · cases z : kitB (tyName d) T with
    | none => rw [z] at q1; exact q1.elim
    | some k => rw [z] at q1; exact m _ _ q1
end
end DL
namespace DL
open PySem PySem.Spec PyProof.Rows L2
section
variable {X : Cx} {x : Str} {e : Expr} {es : List Expr} {r : DA} {p pos : Pos} {id : String} {g : G1} {rr : List V → Hp → VK → Prop}
/-- a built-in function by its name -/
theorem calBi (hc : CallR X (.builtin id) rr) (hg : OpA X.K rr g) (hm : X.mg x = none) (ha : DAr X (e :: es) r) (hl : Gl X x := by rfl) (hv : bootBuiltins x = some (.builtin id) := by decide +kernel) (hn : x ≠ "__name__" := by decide) (hdb : (x == ("__debug__" : Str)) = false := by decide)
    (he : starEach (e :: es) X.env = (false, eval e X.env) :: starEach es X.env := by rfl) (hpl : (backTo pos (starEach es X.env)).any (·.1) = false := by rfl) : DE X (.Call (.Name x p) (e :: es) [] pos) (dCallB g r) :=
  de_of_tCB hg ha fun w => pe_callB hc hl hm hv (ha.run w) hn hdb he hpl
/-- a built-in class by its name -/
theorem calTy (hc : CallR X (.type id) rr) (hg : OpA X.K rr g) (hm : X.mg x = none) (ha : DAr X (e :: es) r) (hl : Gl X x := by rfl) (hv : bootBuiltins x = some (.type id) := by decide +kernel) (hn : x ≠ "__name__" := by decide) (hdb : (x == ("__debug__" : Str)) = false := by decide)
    (he : starEach (e :: es) X.env = (false, eval e X.env) :: starEach es X.env := by rfl) (hpl : (backTo pos (starEach es X.env)).any (·.1) = false := by rfl) : DE X (.Call (.Name x p) (e :: es) [] pos) (dCallB g r) :=
  de_of_tCB hg ha fun w => pe_callTy hc hl hm hv (ha.run w) hn hdb he hpl
end
end DL
namespace DL
open PySem PySem.Spec PyProof.Rows L2
/-- a constant of the module -/
structure GC (K : PySem.W.Frag) (mg : Str → Option Value) (x : Str) (d : D) : Prop where
  ex : ∃ v u, mg x = some u ∧ RelV v u ∧ ∀ F, Dq K F v d
theorem gv {X : Cx} {x : Str} {d : D} {pos : Pos} (c : GC X.K X.mg x d) (hg : Gl X x := by rfl) (hd : (x == ("__debug__" : Str)) = false := by decide) : DE X (.Name x pos) (dC d) := by
  obtain ⟨v, u, h1, h2, h3⟩ := c.ex
  exact de_glob (pe_glob hg h1 h2 hd) h3
abbrev gSub : G2 := gI0 fun i j => .int (i - j)
abbrev gPlus : G2 := gI0 fun i j => .int (i + j)
abbrev gMul : G2 := gI CMulW fun i j => .int (i * j)
abbrev gDiv : G2 := gI CDivW fun i j => .int (i / j)
abbrev gMod : G2 := gI (fun _ j => 0 < j) fun i j => .int (i % j)
abbrev gPow : G2 := gI CPow fun i j => .int (i ^ j.toNat)
abbrev gLt : G2 := gI0 fun i j => .bool (decide (i < j))
abbrev gLe : G2 := gI0 fun i j => .bool (decide (i ≤ j))
abbrev gGt : G2 := gI0 fun i j => .bool (decide (j < i))
abbrev gGe : G2 := gI0 fun i j => .bool (decide (j ≤ i))
/-! numbers of moderate size -/
theorem mulW {i j : Int} (hi : i.natAbs < 2 ^ 9000) (hj : j.natAbs < 2 ^ 9000) : CMulW i j := wide_mul (a := 9000) (b := 9000) hi hj (by decide) (by decide) (by decide)
theorem divW {i j : Int} (h : 0 < j) (hj : j.natAbs < 2 ^ 9000) : CDivW i j := wide_div (b := 9000) h hj (by decide) (by decide)
end DL

/-! ### a def promises what its body reads -/
namespace DL
open PySem PySem.Spec PyProof.Rows L2
def CLD (n : Nat) (N : List Str) (t : DSt) : C0 := fun ds P => ds.length = n ∧ ∃ P0 : D → Prop, (∀ d, P0 d → P d) ∧ t { nx := fun _ => P0 .none, rt := fun d _ => P0 d } (startE N ds)
def CLF (n : Nat) (N : List Str) (t : DSt) : CF := fun ds P => ds.length = n ∧ ∃ P0 : Ow → Prop, (∀ d, P0 d → P d) ∧ t { nx := fun _ => False, rt := fun _ _ => False, rf := fun es _ => P0 es } (startE N ds)
def CLB (n : Nat) (N : List Str) (t : DSt) : C1 := fun cs ds P => ds.length + 1 = n ∧ ∃ P0 : D → Ow → Prop, (∀ d c, P0 d c → P d c) ∧ t { nx := fun e => lentEnd P0 .none e, rt := lentEnd P0 } (startB N cs ds)
theorem cld_mono {n : Nat} {N : List Str} {t : DSt} : Mono0 (CLD n N t) := fun _ _ _ m ⟨l, P0, h, q⟩ => ⟨l, P0, fun d z => m d (h d z), q⟩
theorem clf_mono {n : Nat} {N : List Str} {t : DSt} : MonoF (CLF n N t) := fun _ _ _ m ⟨l, P0, h, q⟩ => ⟨l, P0, fun d z => m d (h d z), q⟩
theorem clb_mono {n : Nat} {N : List Str} {t : DSt} : Mono1 (CLB n N t) := fun _ _ _ _ m ⟨l, P0, h, q⟩ => ⟨l, P0, fun d c z => m d c (h d c z), q⟩
theorem CLD.of {n : Nat} {N : List Str} {t : DSt} {ds : List D} {P : D → Prop} (q : t { nx := fun _ => P .none, rt := fun d _ => P d } (startE N ds)) (l : ds.length = n := by rfl) : CLD n N t ds P := ⟨l, P, fun _ z => z, q⟩
theorem CLF.of {n : Nat} {N : List Str} {t : DSt} {ds : List D} {P : Ow → Prop} (q : t { nx := fun _ => False, rt := fun _ _ => False, rf := fun es _ => P es } (startE N ds)) (l : ds.length = n := by rfl) : CLF n N t ds P := ⟨l, P, fun _ z => z, q⟩
theorem CLB.of {n : Nat} {N : List Str} {t : DSt} {cs : Ow} {ds : List D} {P : D → Ow → Prop} (q : t { nx := fun e => lentEnd P .none e, rt := lentEnd P } (startB N cs ds)) (l : ds.length + 1 = n := by rfl) : CLB n N t cs ds P := ⟨l, P, fun _ _ z => z, q⟩
theorem lentEnd.mono {P P' : D → Ow → Prop} (m : ∀ d c, P d c → P' d c) (d : D) (e : Env) (h : lentEnd P d e) : lentEnd P' d e := by
  unfold lentEnd at h ⊢
  split at h
  · exact m _ _ h
  · exact h.elim
section
variable {P : Program} {w : World} {K : PySem.W.Frag} {mg : Str → Option Value} {base : Heap} {x : Str} {st : Stmt} {N ps : List Str} {k n : Nat}
theorem cal_d (A : DefAt K mg x st ps) (S : FnScope N ps (defScope st)) (t : DSt) (hn : n = ps.length)
    (body : ∀ f cdv A outer s H E, bodyRoom k x st f cdv A s → DSs (bodyCx P w K mg base N x st f cdv A outer s H E) (defBody st) t) : Cal P w K mg base (k + 1) x (spD K (CLD n N t)) :=
  cal_D A S _ t (fun ds P c => c.1.trans hn) body fun m ds P ⟨_, P0, h, q⟩ => m { nx := fun _ => P0 .none, rt := fun d _ => P0 d } _ _ ⟨fun _ z => h _ z, fun _ _ z => h _ z, fun _ _ z => z, fun _ z => z, fun _ z => z⟩ q
theorem cal_f (A : DefAt K mg x st ps) (S : FnScope N ps (defScope st)) (t : DSt) (hn : n = ps.length)
    (body : ∀ f cdv A outer s H E, bodyRoom k x st f cdv A s → DSs (bodyCx P w K mg base N x st f cdv A outer s H E) (defBody st) t) : Cal P w K mg base (k + 1) x (spF K (CLF n N t)) :=
  cal_F A S _ t (fun ds P c => c.1.trans hn) body fun m ds P ⟨_, P0, h, q⟩ => m { nx := fun _ => False, rt := fun _ _ => False, rf := fun es _ => P0 es } _ _ ⟨fun _ z => z, fun _ _ z => z, fun _ _ z => h _ z, fun _ z => z, fun _ z => z⟩ q
theorem cal_b (A : DefAt K mg x st ps) (S : FnScope N ps (defScope st)) (t : DSt) (hn : n = ps.length)
    (body : ∀ f cdv A outer s H E, bodyRoom k x st f cdv A s → DSs (bodyCx P w K mg base N x st f cdv A outer s H E) (defBody st) t) : Cal P w K mg base (k + 1) x (spB K (CLB n N t)) :=
  cal_B A S _ t (fun cs ds P c => c.1.trans hn) body fun m cs ds P ⟨_, P0, h, q⟩ => m { nx := fun e => lentEnd P0 .none e, rt := lentEnd P0 } _ _ ⟨fun _ z => lentEnd.mono h _ _ z, fun _ _ z => lentEnd.mono h _ _ z, fun _ _ z => z, fun _ z => z, fun _ z => z⟩ q
end
end DL

/-! The D layer, part 7: the ends of a law. -/
namespace DL
open PySem PySem.Spec PyProof.Rows L2

/-- the script as data that is only read -/
def scriptOf (ns : List Int) : D := .dict [(.none, .list (ns.map PyData.int))]
/-- the law's own def -/
structure LawAt (K : PySem.W.Frag) (mg : Str → Option Value) (x : Str) (st : Stmt) (p : Str) : Prop where
  ex : ∃ f fd, Fun K x x st f fd ∧ mg x = some (.ref f) ∧ ∀ (s : Shared) (u : Value), BindsTo s fd ⟨[u], []⟩ [(p, u)]
section
variable {P : Program} {w : World} {K : PySem.W.Frag} {mg : Str → Option Value} {x p : Str} {st : Stmt} {N ps : List Str} {k : Nat}
theorem law_d (A : LawAt K mg x st p) (S : FnScope N [p] (defScope st)) (t : DSt)
    (body : ∀ base f cdv A outer s H E, bodyRoom k x st f cdv A s → DSs (bodyCx P w K mg base N x st f cdv A outer s H E) (defBody st) t) :
    ∃ f fd, mg x = some (.ref f) ∧ (∀ (s : Shared) (u : Value), BindsTo s fd ⟨[u], []⟩ [(p, u)]) ∧ ∀ base, FnOk P w K mg base CX0 (k + 1) f fd [p] (spD K (CLD 1 N t)) := by
  obtain ⟨f, fd, F, m, b⟩ := A.ex
  exact ⟨f, fd, m, b, fun base => ok_D F S _ t (fun ds P c => c.1) (body base f) fun m ds P ⟨_, P0, h, q⟩ => m { nx := fun _ => P0 .none, rt := fun d _ => P0 d } _ _ ⟨fun _ z => h _ z, fun _ _ z => h _ z, fun _ _ z => z, fun _ z => z, fun _ z => z⟩ q⟩
variable {h : Heap} {f : Addr} {oc : Value} {od an : Option Addr} {osl : Array (Option Value)} {kV doc pm cdv ct : Value}
theorem defAt_mk (X : K.In h) (G : h.Ns mainGlobals mg) (b : ∀ (kV doc pm : Value) (an : Option Addr) (cdv ct : Value) (us : List Value), us.length = ps.length → bindArgs (PySem.W.fnOf x x (defArgs st) (defBody st) (defScope st) .none kV doc pm an cdv ct) ⟨us, []⟩ = pure (ps.zip us))
    (a : PySem.W.nsIn K mainGlobals x = some (some (.ref f))) (l : K.lookup f = some ⟨oc, od, .func (PySem.W.fnOf x x (defArgs st) (defBody st) (defScope st) .none kV doc pm an cdv ct), osl⟩) (c : PySem.W.codeIn K cdv x = true) (kp : PySem.W.keepIn K (.ref f) = true) : DefAt K mg x st ps :=
  ⟨_, _, fun_mk l c kp, PySem.W.mg_of X G a, (fun_mk l c kp).binds b⟩
theorem lawAt_mk (X : K.In h) (G : h.Ns mainGlobals mg) (b : ∀ (kV doc pm : Value) (an : Option Addr) (cdv ct : Value) (u : Value), bindArgs (PySem.W.fnOf x x (defArgs st) (defBody st) (defScope st) .none kV doc pm an cdv ct) ⟨[u], []⟩ = pure [(p, u)])
    (a : PySem.W.nsIn K mainGlobals x = some (some (.ref f))) (l : K.lookup f = some ⟨oc, od, .func (PySem.W.fnOf x x (defArgs st) (defBody st) (defScope st) .none kV doc pm an cdv ct), osl⟩) (c : PySem.W.codeIn K cdv x = true) (kp : PySem.W.keepIn K (.ref f) = true) : LawAt K mg x st p :=
  ⟨_, _, fun_mk l c kp, PySem.W.mg_of X G a, fun s u => .of_eq (b _ _ _ _ _ _ u)⟩
theorem gc_int {i : Int} {t : Nat} (X : K.In h) (G : h.Ns mainGlobals mg) (a : PySem.W.nsIn K mainGlobals x = some (some (.int i t))) : GC K mg x (.int i) := ⟨.int i, _, PySem.W.mg_of X G a, ⟨_, rfl⟩, fun F => .int i⟩
theorem gc_tup {ds : List D} {vs : List V} {q : Addr} {oc : Obj} {its : Array Value} {n : Nat} (X : K.In h) (G : h.Ns mainGlobals mg) (e : ∀ F, DqAll K F vs ds) (v : Vals vs its.toList) (z : its.size ≤ sizeLine) (c : oc.cls = .type "tuple") (d : oc.data = .seq its n) (a : PySem.W.nsIn K mainGlobals x = some (some (.ref q))) (l : K.lookup q = some oc) : GC K mg x (.tuple ds) :=
  ⟨.ref q, _, PySem.W.mg_of X G a, rfl, fun F => .tup (.inr ⟨oc, its, n, l, c, d, z, v⟩) (e F)⟩
theorem gc_far {q : Program} {lv : List (Str × PySem.W.WData)} {i : Int} (XX : PySem.W.XL q lv mg h) (m : (x, PySem.W.WData.int i) ∈ lv) : GC K mg x (.int i) := by
  obtain ⟨v, a, b⟩ := XX.2.val _ m
  obtain ⟨t, rfl, _⟩ := PySem.W.readsW_int_inv b
  exact ⟨.int i, _, a, ⟨_, rfl⟩, fun F => .int i⟩
end
theorem dq_true {K : PySem.W.Frag} {F : Hp} {v : V} {b : Bool} (h : Dq K F v (.bool b)) : v = .bl b := by cases h; rfl
theorem walk_d {l : PySem.W.OpenLaw} {n k : Nat} {q : Program} {loose : List Str} {XP : (Str → Option Value) → Heap → Prop} {YP : World → Heap → Prop} {d : DefRec} {K : Params → PySem.W.Frag} {C : C0} {x : Str}
    (hn : l.most = some n) (hn2 : n ≤ sizeLine) (hdf : d.params.defaults = []) (hr : Room k callerA) (hC : Mono0 C) (hp : ∀ ns : List Int, ns.length ≤ n → C [scriptOf ns] fun d => d = .bool true)
    (hY : ∀ (w : World) (h : Heap), YP w h → (K w.params).In h)
    (F : ∀ (w : World) (mg : Str → Option Value) (h : Heap), (K w.params).In h → h.Ns mainGlobals mg → XP mg h →
      ∃ fa fd, mg d.name = some (.ref fa) ∧ (∀ (s : Shared) (u : Value), BindsTo s fd ⟨[u], []⟩ [(x, u)]) ∧ ∀ base : Heap, FnOk l.prog w (K w.params) mg base CX0 k fa fd [x] (spD (K w.params) C)) :
    PySem.W.WalkO q loose XP YP l.row.toRowW d [] (fun f vs => PySem.call f vs) := by
  refine Att.attach_call hn hdf fun w s₀ s₁ mg mb fa o pm cd doc a vs ns G Y ho hd hcd hmg hobj hints hlen hg => ?_
  have KX := hY w _ Y
  obtain ⟨fb, fd, hm, hb, hF⟩ := F w mg _ KX G.T.g G.X
  rw [hm] at hmg
  cases hmg
  refine law_call KX G.T.g G.T.b G.T.builtins G.T.nolimit hg hobj hints (Nat.le_trans hlen hn2) hr (fun base _ _ => hF base) hb (fun H hO hS => ?_) fun _ _ _ z => z
  exact ⟨H, [scriptOf ns], Same.refl H, .cons (.scr hS (dpAll_ints ns)) .nil, hC _ _ _ (fun d hd F' H' v _ _ _ p => by subst hd; exact dq_true p) (hp ns hlen)⟩
end DL

/-! The D layer, part 8: readings as equations. -/
namespace DL
open PySem PySem.Spec PyProof.Rows L2
section
variable {e : Env} {Q : D → Env → Prop} {R : Bool → Env → Prop} {S : List D → Env → Prop} {SO : Ow → Env → Prop} {rf : DF} {T : Env → Prop} {f h k : DT} {t u : DB} {r : DA} {D0 : DEnds} {a b : DSt} {g : G2} {i j l : Nat} {P : D → Prop}
@[simp ↓] theorem s_c {d : D} : dC d e Q = Q d e := rfl
/-- the i-th slot -/
def ge (i : Nat) (e : Env) (K : Option Sl → Prop) : Prop := K e[i]?
/-- the i-th slot anew -/
def st (i : Nat) (s : Sl) (e : Env) (T : Env → Prop) : Prop := T (e.set i s)
@[simp ↓] theorem ge_0 {x : Sl} {rest : Env} {K : Option Sl → Prop} : ge 0 (x :: rest) K = K (some x) := rfl
@[simp ↓] theorem ge_S {x : Sl} {rest : Env} {K : Option Sl → Prop} : ge (i + 1) (x :: rest) K = ge i rest K := rfl
@[simp ↓] theorem st_0 {x s : Sl} {rest : Env} : st 0 s (x :: rest) T = T (s :: rest) := rfl
@[simp ↓] theorem st_S {x s : Sl} {rest : Env} : st (i + 1) s (x :: rest) T = st i s rest fun e => T (x :: e) := rfl
@[simp ↓] theorem s_var : dVar i e Q = ge i e fun z => match z with
  | some (.im d) => Q d e
  | some (.mu o) => match owD o with
    | some d => st i (.im d) e fun e' => Q d e'
    | none => False
  | _ => False := rfl
@[simp ↓] theorem s_bin : dBin g f h e Q = f e fun d1 e1 => h e1 fun d2 e2 => g d1 d2 fun d => Q d e2 := rfl
@[simp ↓] theorem s_b : dB f e R = f e fun d e' => match d with
  | .bool k => R k e'
  | _ => False := rfl
@[simp ↓] theorem s_chain {g' : G2} : dChain g g' f h k e Q = f e fun d1 e1 => h e1 fun d2 e2 => g d1 d2 fun z => match z with
  | .bool true => k e2 fun d3 e3 => g' d2 d3 fun d => Q d e3
  | .bool false => Q (.bool false) e2
  | _ => False := rfl
@[simp ↓] theorem s_gI {C : Int → Int → Prop} {kk : Int → Int → D} {x y : Int} : gI C kk (.int x) (.int y) P = (C x y ∧ P (kk x y)) := rfl
@[simp ↓] theorem s_gI0 {kk : Int → Int → D} {x y : Int} : gI0 kk (.int x) (.int y) P = P (kk x y) := rfl
@[simp ↓] theorem s_add {x y : Int} : gAdd (.int x) (.int y) P = P (.int (x + y)) := rfl
@[simp ↓] theorem s_eq {x y : Int} : gEq (.int x) (.int y) P = P (.bool (decide (x = y))) := rfl
@[simp ↓] theorem s_ne {x y : Int} : gNe (.int x) (.int y) P = P (.bool (!decide (x = y))) := rfl
theorem sh_int (x : Int) : SeqAt.shaped (.int x) = true := shaped_int x
@[simp ↓] theorem s_eq2 {x y x' y' : Int} : gEq (.tuple [.int x, .int y]) (.tuple [.int x', .int y']) P = P (.bool (x == x' && y == y')) := by
  unfold gEq
  simp [SeqAt.shaped, PyData.canLay0, PyData.canLayAll0, PyData.depth, PyData.depthAll, PyData.eqv, PyData.eqvAll]
@[simp ↓] theorem s_ne2 {x y x' y' : Int} : gNe (.tuple [.int x, .int y]) (.tuple [.int x', .int y']) P = P (.bool (x != x' || y != y')) := by
  unfold gNe
  simp [SeqAt.shaped, PyData.canLay0, PyData.canLayAll0, PyData.depth, PyData.depthAll, PyData.eqv, PyData.eqvAll, bne]
@[simp ↓] theorem s_eqB {x y : Bool} : gEq (.bool x) (.bool y) P = P (.bool (x == y)) := by
  unfold gEq
  cases x <;> cases y <;> simp [SeqAt.shaped, PyData.canLay0, PyData.canLayAll0, PyData.depth, PyData.depthAll, PyData.eqv, PyData.eqvAll]
@[simp ↓] theorem s_neB {x y : Bool} : gNe (.bool x) (.bool y) P = P (.bool (!(x == y))) := by
  unfold gNe
  cases x <;> cases y <;> simp [SeqAt.shaped, PyData.canLay0, PyData.canLayAll0, PyData.depth, PyData.depthAll, PyData.eqv, PyData.eqvAll]
@[simp ↓] theorem s_isN {d : D} : gIsN d .none P = P (.bool (isNone d)) := rfl
@[simp ↓] theorem s_notN {d : D} : gNotN d .none P = P (.bool (!isNone d)) := rfl
@[simp ↓] theorem s_none_int {x : Int} : isNone (.int x) = false := rfl
@[simp ↓] theorem s_none_none : isNone .none = true := rfl
@[simp ↓] theorem s_un {kk : Int → D} : dUn kk f e Q = f e fun d e1 => match d with
  | .int i => Q (kk i) e1
  | _ => False := rfl
@[simp ↓] theorem s_tru : dTru f e R = f e fun d e1 => match truD d with
  | some k => R k e1
  | none => False := rfl
@[simp ↓] theorem s_truI {x : Int} : truD (.int x) = some (x != 0) := rfl
@[simp ↓] theorem s_truB {x : Bool} : truD (.bool x) = some x := rfl
@[simp ↓] theorem s_and : dAnd t u e R = t e fun k e1 => if k = true then u e1 R else R false e1 := rfl
@[simp ↓] theorem s_or : dOr t u e R = t e fun k e1 => if k = true then R true e1 else u e1 R := rfl
@[simp ↓] theorem s_not : dNot t e R = t e fun k e1 => R (!k) e1 := rfl
@[simp ↓] theorem s_andV : dAndV f h e Q = f e fun d e1 => match d with
  | .bool true => h e1 Q
  | .bool false => Q (.bool false) e1
  | _ => False := rfl
@[simp ↓] theorem s_orV : dOrV f h e Q = f e fun d e1 => match d with
  | .bool true => Q (.bool true) e1
  | .bool false => h e1 Q
  | _ => False := rfl
@[simp ↓] theorem s_notV : dNotV f e Q = f e fun d e1 => match d with
  | .bool k => Q (.bool (!k)) e1
  | _ => False := rfl
@[simp ↓] theorem s_if : dIf t f h e Q = t e fun k e1 => if k = true then f e1 Q else h e1 Q := rfl
@[simp ↓] theorem s_nil : dNil e S = S [] e := rfl
@[simp ↓] theorem s_cons : dCons f r e S = f e fun d e1 => r e1 fun ds e2 => S (d :: ds) e2 := rfl
@[simp ↓] theorem s_tup : dTup r e Q = r e fun ds e1 => ds.length ≤ sizeLine ∧ Q (.tuple ds) e1 := rfl
@[simp ↓] theorem s_lst : dLst r e Q = r e fun ds e1 => ds.length ≤ sizeLine ∧ Q (.list ds) e1 := rfl
@[simp ↓] theorem s_flst : dFLst r e SO = r e fun ds e1 => ds.length ≤ sizeLine ∧ SO (.lst ds) e1 := rfl
@[simp ↓] theorem s_frz : dFrz rf e Q = rf e fun o e' => match owD o with
  | some d => Q d e'
  | none => False := rfl
@[simp] theorem owD_l {ds : List D} : owD (.lst ds) = some (.list ds) := rfl
@[simp] theorem owD_d {ds : List (Key × D)} : owD (.dct ds) = some (.dict (ds.map fun p => (kD p.1, p.2))) := rfl
theorem size_le {n : Nat} (h : n ≤ 1000) : n ≤ sizeLine := Nat.le_of_lt (small1000 h)
@[simp ↓] theorem sz0 : 0 ≤ sizeLine := size_le (by decide)
@[simp ↓] theorem sz1 : 1 ≤ sizeLine := size_le (by decide)
@[simp ↓] theorem sz2 : 2 ≤ sizeLine := size_le (by decide)
@[simp ↓] theorem sz3 : 3 ≤ sizeLine := size_le (by decide)
@[simp ↓] theorem sz4 : 4 ≤ sizeLine := size_le (by decide)
@[simp ↓] theorem sz5 : 5 ≤ sizeLine := size_le (by decide)
@[simp ↓] theorem sz6 : 6 ≤ sizeLine := size_le (by decide)
@[simp ↓] theorem s_ixT {ds : List D} {x : Int} : gIx (.tuple ds) (.int x) P = match atI ds x with
  | some d => P d
  | none => False := rfl
@[simp ↓] theorem s_ixL {ds : List D} {x : Int} : gIx (.list ds) (.int x) P = match atI ds x with
  | some d => P d
  | none => False := rfl
@[simp ↓] theorem s_ixS {ds : List D} {x : Int} : gIx (.dict [(.none, .list ds)]) (.int x) P = match atI ds x with
  | some d => P d
  | none => False := rfl
@[simp ↓] theorem at20 {x y : D} : atI [x, y] 0 = some x := rfl
@[simp ↓] theorem at21 {x y : D} : atI [x, y] 1 = some y := rfl
@[simp ↓] theorem at30 {x y z : D} : atI [x, y, z] 0 = some x := rfl
@[simp ↓] theorem at31 {x y z : D} : atI [x, y, z] 1 = some y := rfl
@[simp ↓] theorem at32 {x y z : D} : atI [x, y, z] 2 = some z := rfl
@[simp ↓] theorem s_ixN : dIxN i h e Q = ((ge i e fun z => ∃ ds, slItems z = some ds) ∧ h e fun d e1 => ge i e1 fun z => match slItems z, d with
  | some ds, .int k => match atI ds k with
    | some d => Q d e1
    | none => False
  | _, _ => False) := rfl
@[simp ↓] theorem s_itB {ds : List D} : slItems (some (.bo (.lst ds))) = some ds := rfl
@[simp ↓] theorem s_itM {ds : List D} : slItems (some (.mu (.lst ds))) = some ds := rfl
@[simp ↓] theorem s_itIL {ds : List D} : slItems (some (.im (.list ds))) = some ds := rfl
@[simp ↓] theorem s_itIT {ds : List D} : slItems (some (.im (.tuple ds))) = some ds := rfl
@[simp ↓] theorem s_owB {ds : Ow} : slOwn (some (.bo ds)) = some ds := rfl
@[simp ↓] theorem s_owM {ds : Ow} : slOwn (some (.mu ds)) = some ds := rfl
@[simp ↓] theorem s_loB {ds : List D} : slLst (some (.bo (.lst ds))) = some ds := rfl
@[simp ↓] theorem s_loM {ds : List D} : slLst (some (.mu (.lst ds))) = some ds := rfl
@[simp ↓] theorem s_puB {ds es : Ow} : slPut (some (.bo ds)) es = some (.bo es) := rfl
@[simp ↓] theorem s_puM {ds es : Ow} : slPut (some (.mu ds)) es = some (.mu es) := rfl
@[simp ↓] theorem s_callB {gg : G1} : dCallB gg r e Q = r e fun ds e1 => gg ds fun d => Q d e1 := rfl
@[simp ↓] theorem s_call {C : C0} : dCall C r e Q = r e fun ds e1 => C ds fun d => Q d e1 := rfl
@[simp ↓] theorem s_fcall {C : CF} : dFCall C r e SO = r e fun ds e1 => C ds fun es => SO es e1 := rfl
@[simp ↓] theorem s_callL {C : C1} : dCallL i C r e Q = ((ge i e fun z => ∃ cs, slOwn z = some cs) ∧ r e fun ds e1 => ge i e1 fun z => match slOwn z with
  | some cs => C cs ds fun d cs' => ∀ s, slPut z cs' = some s → st i s e1 fun e2 => Q d e2
  | none => False) := rfl
@[simp ↓] theorem s_lenN : dLenN i e Q = ge i e fun z => match slItems z with
  | some ds => Q (.int (ds.length : Nat)) e
  | none => False := rfl
@[simp ↓] theorem s_lenL {ds : List D} : gLen [.list ds] P = P (.int (ds.length : Nat)) := rfl
@[simp ↓] theorem s_lenT {ds : List D} : gLen [.tuple ds] P = P (.int (ds.length : Nat)) := rfl
@[simp ↓] theorem s_lenS {ds : List D} : gLen [.dict [(.none, .list ds)]] P = P (.int (ds.length : Nat)) := rfl
@[simp ↓] theorem s_abs {x : Int} : gAbs [.int x] P = P (.int (if x < 0 then -x else x)) := rfl
@[simp ↓] theorem s_max {x y : Int} : gMax [.int x, .int y] P = P (.int (if y > x then y else x)) := rfl
@[simp ↓] theorem s_min {x y : Int} : gMin [.int x, .int y] P = P (.int (if y < x then y else x)) := rfl
@[simp ↓] theorem s_int {x : Int} : gInt [.int x] P = P (.int x) := rfl
@[simp ↓] theorem s_intB {x : Bool} : gInt [.bool x] P = P (.int (if x then 1 else 0)) := rfl
@[simp ↓] theorem s_sum {es : List D} : gSum [.list es] P = match intsOf es with
  | some ns => P (.int ns.sum)
  | none => False := rfl
@[simp ↓] theorem s_all {es : List D} : gAll [.list es] P = match boolsOf es with
  | some ns => P (.bool (ns.all id))
  | none => False := rfl
@[simp ↓] theorem s_tupT {es : List D} : gTuple [.tuple es] P = P (.tuple es) := rfl
@[simp ↓] theorem s_tupL {es : List D} : gTuple [.list es] P = P (.tuple es) := rfl
@[simp ↓] theorem s_lstT {es : List D} : gList [.tuple es] P = P (.list es) := rfl
@[simp ↓] theorem s_lstL {es : List D} : gList [.list es] P = P (.list es) := rfl
@[simp ↓] theorem s_isi {T : String} : dIsi T f e Q = f e fun d e1 => match kitB (tyName d) T with
  | some k => Q (.bool k) e1
  | none => False := rfl
@[simp ↓] theorem s_tyI {x : Int} : tyName (.int x) = "int" := rfl
@[simp ↓] theorem s_tyB {x : Bool} : tyName (.bool x) = "bool" := rfl
/-! statements -/
@[simp ↓] theorem s_pass : dPass D0 e = D0.nx e := rfl
@[simp ↓] theorem s_seq : dSeq a b D0 e = a { D0 with nx := b D0 } e := rfl
@[simp ↓] theorem s_break : dBreak D0 e = D0.bk e := rfl
@[simp ↓] theorem s_cont : dCont D0 e = D0.ct e := rfl
@[simp ↓] theorem s_drop : dDrop f D0 e = f e fun _ e' => D0.nx e' := rfl
@[simp ↓] theorem s_ret : dRet f D0 e = f e D0.rt := rfl
@[simp ↓] theorem s_retF : dRetF rf D0 e = rf e D0.rf := rfl
@[simp ↓] theorem s_retN : dRetN D0 e = D0.rt .none e := rfl
@[simp ↓] theorem s_ifS : dIfS t a b D0 e = t e fun k e' => if k = true then a D0 e' else b D0 e' := rfl
@[simp ↓] theorem s_never : dNever D0 e = False := rfl
@[simp ↓] theorem s_gName {d : D} : dgName i d e T = st i (.im d) e T := rfl
@[simp ↓] theorem s_gNil {ds : List D} : dgNil ds e T = (ds = [] ∧ T e) := rfl
@[simp ↓] theorem s_gCons {gg : DTg} {rr : DTgs} {d : D} {ds : List D} : dgCons gg rr (d :: ds) e T = gg d e fun e1 => rr ds e1 T := rfl
@[simp ↓] theorem s_gTup {n : Nat} {rr : DTgs} {ds : List D} : dgTup n rr (.tuple ds) e T = (ds.length = n ∧ rr ds e T) := rfl
@[simp ↓] theorem s_gLst {n : Nat} {rr : DTgs} {ds : List D} : dgLst n rr (.list ds) e T = (ds.length = n ∧ rr ds e T) := rfl
@[simp ↓] theorem s_asg {gg : DTg} : dAsg f gg D0 e = f e fun d e1 => gg d e1 D0.nx := rfl
@[simp ↓] theorem s_asgF : dAsgF rf i D0 e = rf e fun ds e1 => st i (.mu ds) e1 D0.nx := rfl
@[simp ↓] theorem s_par : dPar i j r D0 e = r e fun ds e1 => match ds with
  | [d1, d2] => st i (.im d1) e1 fun e2 => st j (.im d2) e2 D0.nx
  | _ => False := rfl
@[simp ↓] theorem s_par3 : dPar3 i j l r D0 e = r e fun ds e1 => match ds with
  | [d1, d2, d3] => st i (.im d1) e1 fun e2 => st j (.im d2) e2 fun e3 => st l (.im d3) e3 D0.nx
  | _ => False := rfl
@[simp ↓] theorem s_aug : dAug i g f D0 e = ge i e fun z => match z with
  | some (.im d1) => f e fun d2 e1 => g d1 d2 fun d => st i (.im d) e1 D0.nx
  | _ => False := rfl
@[simp ↓] theorem s_append : dAppend i f D0 e = ((ge i e fun z => ∃ ds, slLst z = some ds) ∧ f e fun d e1 => ge i e1 fun z => match slLst z with
  | some ds => ds.length < sizeLine ∧ ∀ s, slPut z (.lst (ds ++ [d])) = some s → st i s e1 D0.nx
  | none => False) := rfl
@[simp ↓] theorem s_setIx : dSetIx i k f D0 e = f e fun d e1 => (ge i e1 fun z => ∃ ds, slLst z = some ds) ∧ k e1 fun dk e2 => ge i e2 fun z => match dk, slLst z with
  | .int n, some ds => match ixN ds.length n with
    | some j => ∀ s, slPut z (.lst (ds.set j d)) = some s → st i s e2 D0.nx
    | none => False
  | _, _ => False := rfl
@[simp ↓] theorem s_ix20 : ixN 2 0 = some 0 := rfl
@[simp ↓] theorem s_ix21 : ixN 2 1 = some 1 := rfl
@[simp ↓] theorem s_lentEnd {PP : D → Ow → Prop} {d : D} {cs : Ow} {rest : Env} : lentEnd PP d (.bo cs :: rest) = PP d cs := rfl
@[simp ↓] theorem s_itL : dItL f e S = f e fun d e' => match d with
  | .list ds => S ds e'
  | _ => False := rfl
@[simp ↓] theorem s_itT : dItT f e S = f e fun d e' => match d with
  | .tuple ds => S ds e'
  | _ => False := rfl
@[simp ↓] theorem s_rng1 : dRng1 r e S = r e fun ds e' => match ds with
  | [.int j] => -(2 ^ 62) ≤ j ∧ j < 2 ^ 62 ∧ S (upto 0 j.toNat) e'
  | _ => False := rfl
@[simp ↓] theorem s_rng2 : dRng2 r e S = r e fun ds e' => match ds with
  | [.int i, .int j] => (-(2 ^ 62) ≤ i ∧ i < 2 ^ 62 ∧ -(2 ^ 62) ≤ j ∧ j < 2 ^ 62) ∧ S (upto i (j - i).toNat) e'
  | _ => False := rfl
theorem s_for {wi : DI} {gg : DTg} : dFor wi gg b D0 e = wi e fun ds e1 => ∃ Pv : Nat → Env → Prop, Pv 0 e1 ∧
  (∀ i d e2, ds[i]? = some d → Pv i e2 → gg d e2 fun e3 => b { D0 with nx := Pv (i + 1), ct := Pv (i + 1), bk := D0.nx } e3) ∧ ∀ e2, Pv ds.length e2 → D0.nx e2 := rfl
theorem s_while : dWhile t b D0 e = ∃ W : Nat → Env → Prop, (∃ m, W m e) ∧ ∀ m e, W m e → t e fun k e1 => if k = true then b { D0 with nx := fun e' => ∃ m', m' < m ∧ W m' e', ct := fun e' => ∃ m', m' < m ∧ W m' e', bk := D0.nx } e1 else D0.nx e1 := rfl
@[simp ↓] theorem s_yes : dYes e R = R true e := rfl
theorem s_comp {wi : DI} {gd : DTg} {vs : List Nat} : dComp wi gd t f vs e SO = wi e fun ds e1 => ∃ Pv : Nat → List D → Env → Prop, Pv 0 [] (wipeE e1 vs) ∧
  (∀ i d acc e2, ds[i]? = some d → Pv i acc e2 → gd d e2 fun e3 => t e3 fun k e4 => if k = true then f e4 fun y e5 => acc.length < sizeLine ∧ Pv (i + 1) (acc ++ [y]) (wipeE e5 vs) else Pv (i + 1) acc (wipeE e4 vs)) ∧
  ∀ acc e2, Pv ds.length acc e2 → SO (.lst acc) e2 := rfl
@[simp] theorem s_wipe0 : wipeE e [] = e := rfl
@[simp] theorem s_wipe1 {v : Nat} {vs : List Nat} : wipeE e (v :: vs) = (wipeE e vs).set v .un := rfl
theorem while_by (W : Nat → Env → Prop) (h0 : ∃ m, W m e) (hs : ∀ m e, W m e → t e fun k e1 => if k = true then b { D0 with nx := fun e' => ∃ m', m' < m ∧ W m' e', ct := fun e' => ∃ m', m' < m ∧ W m' e', bk := D0.nx } e1 else D0.nx e1) : dWhile t b D0 e := ⟨W, h0, hs⟩
theorem for_rng1 {rr : DA} {gg : DTg} {j : Int} {e1 : Env} (hr : ∀ S : List D → Env → Prop, S [.int j] e1 → rr e S) (h1 : -(2 ^ 62) ≤ j) (h2 : j < 2 ^ 62) (Pv : Nat → Env → Prop) (h0 : Pv 0 e1)
    (hs : ∀ (i : Nat) e2, (i : Int) < j → Pv i e2 → gg (.int i) e2 fun e3 => b { D0 with nx := Pv (i + 1), ct := Pv (i + 1), bk := D0.nx } e3) (hd : ∀ e2, Pv j.toNat e2 → D0.nx e2) : dFor (dRng1 rr) gg b D0 e := by
  refine hr _ ⟨h1, h2, Pv, h0, fun i d e2 q p => ?_, fun e2 p => hd e2 (by rw [upto_len] at p; exact p)⟩
  obtain ⟨l, rfl⟩ := upto_get _ _ _ q
  rw [Int.zero_add]
  exact hs i e2 (by omega) p
theorem for_list {ff : DT} {gg : DTg} {ds : List D} {e1 : Env} (hr : ∀ Q : D → Env → Prop, Q (.list ds) e1 → ff e Q) (Pv : Nat → Env → Prop) (h0 : Pv 0 e1)
    (hs : ∀ (i : Nat) d e2, ds[i]? = some d → Pv i e2 → gg d e2 fun e3 => b { D0 with nx := Pv (i + 1), ct := Pv (i + 1), bk := D0.nx } e3) (hd : ∀ e2, Pv ds.length e2 → D0.nx e2) : dFor (dItL ff) gg b D0 e :=
  hr _ ⟨Pv, h0, hs, hd⟩
theorem for_tup {ff : DT} {gg : DTg} {ds : List D} {e1 : Env} (hr : ∀ Q : D → Env → Prop, Q (.tuple ds) e1 → ff e Q) (Pv : Nat → Env → Prop) (h0 : Pv 0 e1)
    (hs : ∀ (i : Nat) d e2, ds[i]? = some d → Pv i e2 → gg d e2 fun e3 => b { D0 with nx := Pv (i + 1), ct := Pv (i + 1), bk := D0.nx } e3) (hd : ∀ e2, Pv ds.length e2 → D0.nx e2) : dFor (dItT ff) gg b D0 e :=
  hr _ ⟨Pv, h0, hs, hd⟩
theorem comp_rng1 {rr : DA} {gg : DTg} {vs : List Nat} {j : Int} {e1 : Env} (hr : ∀ S : List D → Env → Prop, S [.int j] e1 → rr e S) (h1 : -(2 ^ 62) ≤ j) (h2 : j < 2 ^ 62) (Pv : Nat → List D → Env → Prop) (h0 : Pv 0 [] (wipeE e1 vs))
    (hs : ∀ (i : Nat) acc e2, (i : Int) < j → Pv i acc e2 → gg (.int i) e2 fun e3 => t e3 fun k e4 => if k = true then f e4 fun y e5 => acc.length < sizeLine ∧ Pv (i + 1) (acc ++ [y]) (wipeE e5 vs) else Pv (i + 1) acc (wipeE e4 vs))
    (hd : ∀ acc e2, Pv j.toNat acc e2 → SO (.lst acc) e2) : dComp (dRng1 rr) gg t f vs e SO := by
  refine hr _ ⟨h1, h2, Pv, h0, fun i d acc e2 q p => ?_, fun acc e2 p => hd acc e2 (by rw [upto_len] at p; exact p)⟩
  obtain ⟨l, rfl⟩ := upto_get _ _ _ q
  rw [Int.zero_add]
  exact hs i acc e2 (by omega) p
theorem comp_rng2 {rr : DA} {gg : DTg} {vs : List Nat} {i0 j : Int} {e1 : Env} (hr : ∀ S : List D → Env → Prop, S [.int i0, .int j] e1 → rr e S) (h1 : -(2 ^ 62) ≤ i0 ∧ i0 < 2 ^ 62 ∧ -(2 ^ 62) ≤ j ∧ j < 2 ^ 62) (Pv : Nat → List D → Env → Prop) (h0 : Pv 0 [] (wipeE e1 vs))
    (hs : ∀ (i : Nat) acc e2, i0 + (i : Int) < j → Pv i acc e2 → gg (.int (i0 + i)) e2 fun e3 => t e3 fun k e4 => if k = true then f e4 fun y e5 => acc.length < sizeLine ∧ Pv (i + 1) (acc ++ [y]) (wipeE e5 vs) else Pv (i + 1) acc (wipeE e4 vs))
    (hd : ∀ acc e2, Pv (j - i0).toNat acc e2 → SO (.lst acc) e2) : dComp (dRng2 rr) gg t f vs e SO := by
  refine hr _ ⟨h1, Pv, h0, fun i d acc e2 q p => ?_, fun acc e2 p => hd acc e2 (by rw [upto_len] at p; exact p)⟩
  obtain ⟨l, rfl⟩ := upto_get _ _ _ q
  exact hs i acc e2 (by omega) p
theorem comp_list {ff : DT} {gg : DTg} {vs : List Nat} {ds : List D} {e1 : Env} (hr : ∀ Q : D → Env → Prop, Q (.list ds) e1 → ff e Q) (Pv : Nat → List D → Env → Prop) (h0 : Pv 0 [] (wipeE e1 vs))
    (hs : ∀ (i : Nat) d acc e2, ds[i]? = some d → Pv i acc e2 → gg d e2 fun e3 => t e3 fun k e4 => if k = true then f e4 fun y e5 => acc.length < sizeLine ∧ Pv (i + 1) (acc ++ [y]) (wipeE e5 vs) else Pv (i + 1) acc (wipeE e4 vs))
    (hd : ∀ acc e2, Pv ds.length acc e2 → SO (.lst acc) e2) : dComp (dItL ff) gg t f vs e SO :=
  hr _ ⟨Pv, h0, hs, hd⟩
/-- a loop over known data, turn by turn -/
def runF (gg : DTg) (b : DSt) (D0 : DEnds) : List D → Env → Prop
  | [], e => D0.nx e
  | d :: r, e => gg d e fun e3 => b { D0 with nx := runF gg b D0 r, ct := runF gg b D0 r, bk := D0.nx } e3
theorem run_by {gg : DTg} {ds : List D} {e1 : Env} (h : runF gg b D0 ds e1) : ∃ Pv : Nat → Env → Prop, Pv 0 e1 ∧
    (∀ i d e2, ds[i]? = some d → Pv i e2 → gg d e2 fun e3 => b { D0 with nx := Pv (i + 1), ct := Pv (i + 1), bk := D0.nx } e3) ∧ ∀ e2, Pv ds.length e2 → D0.nx e2 := by
  refine ⟨fun i e => runF gg b D0 (ds.drop i) e, h, fun i d e2 q p => ?_, fun e2 p => ?_⟩
  · have hi : i < ds.length := (List.getElem?_eq_some_iff.mp q).1
    have e : ds.drop i = d :: ds.drop (i + 1) := by
      rw [List.drop_eq_getElem_cons hi]
      rw [List.getElem?_eq_getElem hi] at q
      rw [Option.some.inj q]
    have p' : runF gg b D0 (ds.drop i) e2 := p
    rw [e] at p'
    exact p'
  · have p' : runF gg b D0 (ds.drop ds.length) e2 := p
    rw [List.drop_length] at p'
    exact p'
theorem for_runT {ff : DT} {gg : DTg} {ds : List D} {e1 : Env} (hr : ∀ Q : D → Env → Prop, Q (.tuple ds) e1 → ff e Q) (h : runF gg b D0 ds e1) : dFor (dItT ff) gg b D0 e := hr _ (run_by h)
theorem for_runL {ff : DT} {gg : DTg} {ds : List D} {e1 : Env} (hr : ∀ Q : D → Env → Prop, Q (.list ds) e1 → ff e Q) (h : runF gg b D0 ds e1) : dFor (dItL ff) gg b D0 e := hr _ (run_by h)
theorem run_nil {gg : DTg} : runF gg b D0 [] e = D0.nx e := rfl
theorem run_cons {gg : DTg} {d : D} {ds : List D} : runF gg b D0 (d :: ds) e = gg d e fun e3 => b { D0 with nx := runF gg b D0 ds, ct := runF gg b D0 ds, bk := D0.nx } e3 := rfl
@[simp ↓] theorem kit_ii : kitB "int" "int" = some true := by decide +kernel
@[simp ↓] theorem kit_ib : kitB "int" "bool" = some false := by decide +kernel
@[simp ↓] theorem kit_bi : kitB "bool" "int" = some true := by decide +kernel
@[simp ↓] theorem kit_bb : kitB "bool" "bool" = some true := by decide +kernel
end
end DL

/-! The D layer, part 9: dicts, slices, zip, and smaller things. -/
namespace DL
open PySem PySem.Spec PyProof.Rows L2

/-! ### dicts of ints and texts -/
def keyOf : D → Option Key
  | .int i => some (.inl i)
  | .str x => some (.inr x)
  | _ => none
theorem key_dq {K : PySem.W.Frag} {F : Hp} {v : V} {d : D} {k : Key} (h : keyOf d = some k) (p : Dq K F v d) : v = kV k := by
  unfold keyOf at h
  split at h
  · cases h; exact dp_int p
  · cases h; exact dp_str p
  · cases h
def valD (kvs : List (Key × D)) (k : Key) : Option D := (kvs.find? fun kv => decide (kv.1 = k)).map (·.2)
def putD (kvs : List (Key × D)) (k : Key) (d : D) : List (Key × D) :=
  if (kvs.any fun kv => decide (kv.1 = k)) = true then kvs.map (fun kv => if kv.1 = k then (kv.1, d) else kv) else kvs ++ [(k, d)]
theorem KvR.val {K : PySem.W.Frag} {F : Hp} (k : Key) : ∀ {xs : List (Key × V)} {ds : List (Key × D)}, KvR K F xs ds → (valV xs k = none ∧ valD ds k = none) ∨ ∃ v d, valV xs k = some v ∧ valD ds k = some d ∧ Dq K F v d
  | _, _, .nil => .inl ⟨rfl, rfl⟩
  | _, _, .cons (k := j) (v := v) (d := d) h t => by
    by_cases e : j = k
    · refine .inr ⟨v, d, ?_, ?_, h⟩
      · exact valV_pos e
      · unfold valD; rw [List.find?_cons_of_pos (by simpa using e)]; rfl
    · have e1 : ∀ r : List (Key × V), valV ((j, v) :: r) k = valV r k := fun r => valV_neg e
      have e2 : ∀ r : List (Key × D), valD ((j, d) :: r) k = valD r k := fun r => by unfold valD; rw [List.find?_cons_of_neg (by simpa using e)]
      rw [e1, e2]
      exact t.val k
theorem KvR.any {K : PySem.W.Frag} {F : Hp} (k : Key) : ∀ {xs : List (Key × V)} {ds : List (Key × D)}, KvR K F xs ds → (xs.any fun kv => decide (kv.1 = k)) = (ds.any fun kv => decide (kv.1 = k))
  | _, _, .nil => rfl
  | _, _, .cons h t => by rw [List.any_cons, List.any_cons, t.any k]
theorem KvR.repl {K : PySem.W.Frag} {F : Hp} (k : Key) {v : V} {d : D} (p : Dq K F v d) : ∀ {xs : List (Key × V)} {ds : List (Key × D)}, KvR K F xs ds → KvR K F (xs.map fun kv => if kv.1 = k then (kv.1, v) else kv) (ds.map fun kv => if kv.1 = k then (kv.1, d) else kv)
  | _, _, .nil => .nil
  | _, _, .cons (k := j) h t => by
    rw [List.map_cons, List.map_cons]
    by_cases e : j = k
    · rw [if_pos e, if_pos e]; exact .cons p (t.repl k p)
    · rw [if_neg e, if_neg e]; exact .cons h (t.repl k p)
theorem KvR.snoc {K : PySem.W.Frag} {F : Hp} (k : Key) {v : V} {d : D} (p : Dq K F v d) : ∀ {xs : List (Key × V)} {ds : List (Key × D)}, KvR K F xs ds → KvR K F (xs ++ [(k, v)]) (ds ++ [(k, d)])
  | _, _, .nil => .cons p .nil
  | _, _, .cons h t => .cons h (t.snoc k p)
theorem KvR.put {K : PySem.W.Frag} {F : Hp} (k : Key) {v : V} {d : D} (p : Dq K F v d) {xs : List (Key × V)} {ds : List (Key × D)} (r : KvR K F xs ds) : KvR K F (putK xs k v) (putD ds k d) := by
  unfold putK putD
  rw [r.any k]
  split
  · exact r.repl k p
  · exact r.snoc k p
theorem KvR.len {K : PySem.W.Frag} {F : Hp} : ∀ {xs : List (Key × V)} {ds : List (Key × D)}, KvR K F xs ds → xs.length = ds.length
  | _, _, .nil => rfl
  | _, _, .cons _ t => congrArg (· + 1) t.len
def slDct (z : Option Sl) : Option (List (Key × D)) := match slOwn z with
  | some (.dct ds) => some ds
  | _ => none
theorem slDct_own {z : Option Sl} {ds : List (Key × D)} (h : slDct z = some ds) : slOwn z = some (.dct ds) := by
  unfold slDct at h
  split at h
  · rename_i e; cases h; exact e
  · cases h
theorem Rel.ownedD {K : PySem.W.Frag} {w : Wd} {F : Hp} {ad : Nat → Addr} {σ : L2.St} {H : Hp} {e : Env} {i : Nat} {ds : List (Key × D)} (R : Rel K w F ad σ H e) (q : slDct e[i]? = some ds) :
    ∃ p xs, σ[i]? = some (some (.ref p)) ∧ H p = some (.dK xs) ∧ KvR K F xs ds ∧ F p = none ∧
      ∀ ys es, KvR K F ys es → ∃ s, slPut e[i]? (.dct es) = some s ∧ Rel K w F ad σ (upd H p (.dK ys)) (e.set i s) := by
  obtain ⟨p, ho, h1, h2, h3, h4, up⟩ := R.owned (slDct_own q)
  obtain ⟨xs, rfl, h5⟩ := owr_dct h3
  exact ⟨p, xs, h1, h2, h5, h4, fun ys es h => up _ _ (.dct h)⟩
section
variable {X : Cx} {x y a b c : Expr} {f g h k : DT} {t u : DB} {pos apos cpos pos' : Pos} {st : Stmt}
/-- {} -/
def dDNew : DF := fun e Q => Q (.dct []) e
theorem df_dnew : DFe X (.Dict [] [] pos) dDNew := by
  refine ⟨fun w => PE.imp pe_dnewK ?_, fun e Q Q' m q => m _ _ q⟩
  rintro σ H Q ⟨F, ad, e, R, q⟩ p hp
  obtain ⟨R2, fr⟩ := R.layOwn (o := .dK []) hp
  exact q F ad _ p _ (Same.refl F) R2 upd_same fr (.dct .nil)
/-- x[k] = e, x a name, a dict of one's own -/
def dDPut (i : Nat) (k f : DT) : DSt := fun D e => f e fun d e1 => (∃ ds, slDct e1[i]? = some ds) ∧ k e1 fun dk e2 => match keyOf dk, slDct e2[i]? with
  | some kk, some ds => ds.length < sizeLine ∧ ∀ s, slPut e2[i]? (.dct (putD ds kk d)) = some s → D.nx (e2.set i s)
  | _, _ => False
theorem ds_dput (i : Nat) {o : Expr} (hu : X.A.units + 1 < cLine) (ho : PE X o (tVar i)) (ha : DE X a f) (hk : DE X b k) (hs : swapsWith a (some (.Subscript o b pos')) pos.line X.env = pure false := by rfl) : DS X (.Assign [.Subscript o b pos'] a pos) (dDPut i k f) := by
  refine ⟨fun w => PS.imp (ps_dput hu ho (hk.run w) (ha.run w) hs) ?_, fun A B e l q => ha.mono _ _ _ (fun d e1 q1 => ⟨q1.1, hk.mono _ _ _ (fun dk e2 q2 => ?_) q1.2⟩) q⟩
  · rintro D σ H ⟨F, ad, e, R, q⟩
    refine ⟨F, ad, e, R, ha.mono _ _ _ (fun d e1 q1 F1 ad1 H1 v s1 R1 p1 => ?_) q⟩
    obtain ⟨⟨ds0, q0⟩, q1⟩ := q1
    obtain ⟨p, xs0, h0, _⟩ := R1.ownedD q0
    refine ⟨_, h0, F1, ad1, e1, R1, hk.mono _ _ _ (fun dk e2 q2 F2 ad2 H2 vk s2 R2 p2 => ?_) q1⟩
    split at q2
    · rename_i kk ds hkk hds
      obtain ⟨p3, xs, h3, h4, h5, _, up⟩ := R2.ownedD hds
      rw [h0] at h3
      cases h3
      obtain ⟨s, hs, R3⟩ := up _ _ (h5.put kk (dp_mono s2 _ _ p1))
      exact ⟨p, _, rfl, .inl ⟨xs, kk, h4, key_dq hkk p2, by rw [h5.len]; exact q2.1, rfl⟩, q2.2 s hs F2 ad2 σ _ R3⟩
    · exact q2.elim
  · split at q2
    · exact ⟨q2.1, fun s hs => l.nx _ (q2.2 s hs)⟩
    · exact q2.elim
/-- x.get(k, z), x a name, a dict of one's own -/
def dDGet2 (i : Nat) (k f : DT) : DT := fun e Q => (∃ ds, slDct e[i]? = some ds) ∧ k e fun dk e1 => (∃ ds, slDct e1[i]? = some ds) ∧ f e1 fun dz e2 => match keyOf dk, slDct e2[i]? with
  | some kk, some ds => Q ((valD ds kk).getD dz) e2
  | _, _ => False
theorem de_dget2 (i : Nat) {o : Expr} (hu : X.A.units + 1 < cLine) (ho : PE X o (tVar i)) (hk : DE X a k) (hf : DE X b f) (m : M2 X o "get" apos a b cpos) : DE X (.Call (.Attribute o "get" apos) [a, b] [] cpos) (dDGet2 i k f) := by
  refine ⟨fun w => PE.imp (pe_dget2 hu ho (hk.run w) (hf.run w) m) ?_, fun e Q Q' m q => ⟨q.1, hk.mono _ _ _ (fun dk e1 q1 => ⟨q1.1, hf.mono _ _ _ (fun dz e2 q2 => ?_) q1.2⟩) q.2⟩⟩
  · rintro σ H Q ⟨F, ad, e, R, ⟨ds0, q0⟩, q⟩
    obtain ⟨p, xs0, h0, h1, _⟩ := R.ownedD q0
    refine ⟨_, h0, p, rfl, .inl ⟨xs0, Rd.of h1⟩, F, ad, e, R, hk.mono _ _ _ (fun dk e1 q1 F1 ad1 H1 vk s1 R1 p1 => ?_) q⟩
    refine ⟨F1, ad1, e1, R1, hf.mono _ _ _ (fun dz e2 q2 F2 ad2 H2 vz s2 R2 p2 => ?_) q1.2⟩
    split at q2
    · rename_i kk ds hkk hds
      obtain ⟨p3, xs, h3, h4, h5, _⟩ := R2.ownedD hds
      rw [h0] at h3
      cases h3
      refine ⟨valV xs kk, .inl ⟨xs, kk, Rd.of h4, key_dq hkk p1, rfl⟩, ?_⟩
      rcases h5.val kk with ⟨z1, z2⟩ | ⟨v, d, z1, z2, z3⟩
      · rw [z1]
        rw [z2] at q2
        exact q2 F2 ad2 H2 vz (s1.trans s2) R2 p2
      · rw [z1]
        rw [z2] at q2
        exact q2 F2 ad2 H2 v (s1.trans s2) R2 z3
    · exact q2.elim
  · split at q2
    · exact m _ _ q2
    · exact q2.elim
/-- the keys of a dict that is data -/
def dItK (f : DT) : DI := fun e Q => f e fun d e' => match d with
  | .dict kvs => (kvs.all fun p => (keyOf p.1).isSome) = true ∧ Q (kvs.map (·.1)) e'
  | _ => False
theorem kv_get {K : PySem.W.Frag} {F : Hp} : ∀ {xs : List (Key × V)} {ds : List (D × D)} {i : Nat} {d : D}, DqKv K F xs ds → (ds.map (·.1))[i]? = some d → ∃ k v, xs[i]? = some (k, v) ∧ d = kD k
  | _, _, 0, d, .cons (k := k) (v := v) h0 h t, e => by
    have e' := Option.some.inj e
    exact ⟨k, v, rfl, by rw [← e']; exact h0⟩
  | _, _, i + 1, d, .cons h0 h t, e => kv_get (i := i) t e
  | _, _, i, d, .nil, e => by simp at e
theorem kv_len {K : PySem.W.Frag} {F : Hp} : ∀ {xs : List (Key × V)} {ds : List (D × D)}, DqKv K F xs ds → xs.length = ds.length
  | _, _, .nil => rfl
  | _, _, .cons _ _ t => congrArg (· + 1) (kv_len t)
theorem kd_dq {K : PySem.W.Frag} {F : Hp} (k : Key) : Dq K F (kV k) (kD k) := by
  cases k with
  | inl i => exact .int i
  | inr x => exact .str x
theorem di_keys {tg : Expr} (ha : DE X a f) : DIt X tg a (dItK f) := by
  refine ⟨fun w => PI.imp (pi_keys (ha.run w)) ?_, fun e Q Q' m q => ha.mono _ _ _ (fun d e' q' => ?_) q⟩
  · rintro σ H R ⟨F, ad, e, Rl, q⟩
    refine ⟨F, ad, e, Rl, ha.mono _ _ _ (fun d e' q' F' ad' H' v s' R' p => ?_) q⟩
    split at q'
    · rename_i kvs
      generalize ed : (PyData.dict kvs) = dd at p
      cases p with
      | scr _ _ =>
        cases ed
        have := q'.1
        simp [keyOf] at this
      | @dct pp o xs ds hF hk =>
        cases ed
        refine ⟨pp, o, rfl, .inl ⟨xs, R'.sub _ _ hF, ?_⟩⟩
        refine q'.2 F' ad' H' _ s' R' ⟨fun i H2 sm l => ⟨sm _ _ hF, ?_⟩, fun i H2 sm l => ⟨sm _ _ hF, ?_⟩, fun i H2 H3 x d sm y hd => ?_⟩
        · rw [kv_len hk]; simpa using l
        · rw [kv_len hk]; simpa using l
        · obtain ⟨rfl, k2, v2, e1, rfl⟩ := y
          obtain ⟨k3, v3, e2, rfl⟩ := kv_get hk hd
          rw [e1] at e2
          cases e2
          exact ⟨F', kd_dq _, .inl ⟨rfl, rfl⟩⟩
      | obj _ _ _ _ =>
        cases ed
        have := q'.1
        simp [keyOf] at this
      | _ => cases ed
    · exact q'.elim
  · split at q'
    · exact ⟨q'.1, m _ _ q'.2⟩
    · exact q'.elim
end
end DL

/-! The D layer, part 10: is of bools, three comparisons, slices, zip. -/
namespace DL
open PySem PySem.Spec PyProof.Rows L2
/-! ### is of bools -/
def gIsB : G2 := fun d1 d2 P => match d1, d2 with
  | .bool a, .bool b => P (.bool (a == b))
  | _, _ => False
def gNotB : G2 := fun d1 d2 P => match d1, d2 with
  | .bool a, .bool b => P (.bool (a != b))
  | _, _ => False
theorem os_isB {K : PySem.W.Frag} : OpS K rIsB gIsB := ⟨fun F H x y d1 d2 Q sm p1 p2 q => by
  unfold gIsB at q
  split at q
  · rename_i a b
    refine ⟨a, b, dp_bool p1, dp_bool p2, ?_⟩
    have e : decide (a = b) = (a == b) := by cases a <;> cases b <;> rfl
    rw [e]
    exact q _ (.bl _)
  · exact q.elim, fun d1 d2 P P' m q => by
  unfold gIsB at q ⊢
  split at q
  · exact m _ q
  · exact q.elim⟩
theorem os_notB {K : PySem.W.Frag} : OpS K rNotB gNotB := ⟨fun F H x y d1 d2 Q sm p1 p2 q => by
  unfold gNotB at q
  split at q
  · rename_i a b
    refine ⟨a, b, dp_bool p1, dp_bool p2, ?_⟩
    have e : (!decide (a = b)) = (a != b) := by cases a <;> cases b <;> rfl
    rw [e]
    exact q _ (.bl _)
  · exact q.elim, fun d1 d2 P P' m q => by
  unfold gNotB at q ⊢
  split at q
  · exact m _ q
  · exact q.elim⟩
@[simp ↓] theorem s_isB {a b : Bool} {P : D → Prop} : gIsB (.bool a) (.bool b) P = P (.bool (a == b)) := rfl
@[simp ↓] theorem s_notB {a b : Bool} {P : D → Prop} : gNotB (.bool a) (.bool b) P = P (.bool (a != b)) := rfl
section
variable {X : Cx} {a b c d : Expr} {pos : Pos}
/-! ### a op b op c op d -/
def tChain3 (r r' r'' : R2) (ta tb tc td : TE) : TE := fun σ H Q => ta σ H fun x H1 => tb σ H1 fun y H2 => r x y H2 fun z H3 => ∃ k, z = .bl k ∧
  (if k = true then tc σ H3 fun u H4 => r' y u H4 fun z' H5 => ∃ k', z' = .bl k' ∧ (if k' = true then td σ H5 fun v H6 => r'' u v H6 Q else Q (.bl false) H5) else Q (.bl false) H3)
theorem pe_chain3 {op op' op'' : CmpOp} {r r' r'' : R2} {ta tb tc td : TE} (ho : OpR X (compareOp op) r) (ho' : OpR X (compareOp op') r') (ho'' : OpR X (compareOp op'') r'') (ha : PE X a ta) (hb : PE X b tb) (hc : PE X c tc) (hd : PE X d td)
    (hm : lastMarks [op, op', op''] [b, c, d] = false := by with_unfolding_all rfl) : PE X (.Compare a [op, op', op''] [b, c, d] pos) (tChain3 r r' r'' ta tb tc td) := by
  refine ⟨fun pins s σ H Q I h => ?_⟩
  refine Compare_chain (thn (ha.run pins s σ H _ I h) fun v s1 ⟨x, H1, I1, r1, q1⟩ => chain_link (thn (hb.run pins s1 σ H1 _ I1 q1) fun u s2 ⟨y, H2, I2, r2, q2⟩ =>
    thn (ho pins s2 σ H2 x y v u _ I2 r1 r2 q2) fun dd s3 ⟨z, H3, I3, r3, k, e, q3⟩ => ?_)) hm
  subst e
  cases r3
  refine wpAny_truthy_bool ?_
  cases k with
  | false => exact ite_ff ⟨.bl false, H3, I3, rfl, q3⟩
  | true =>
    refine ite_tt (chain_link (thn (hc.run pins s3 σ H3 _ I3 q3) fun u' s4 ⟨y', H4, I4, r4, q4⟩ => thn (ho' pins s4 σ H4 y y' u u' _ I4 r2 r4 q4) fun dd s5 ⟨z, H5, I5, r5, k, e, q5⟩ => ?_))
    subst e
    cases r5
    refine wpAny_truthy_bool ?_
    cases k with
    | false => exact ite_ff ⟨.bl false, H5, I5, rfl, q5⟩
    | true => exact ite_tt (chain_last (thn (hd.run pins s5 σ H5 _ I5 q5) fun w' s6 ⟨z', H6, I6, r6, q6⟩ => ho'' pins s6 σ H6 y' z' u' w' Q I6 r4 r6 q6))
def dChain3 (g g' g'' : G2) (f h k m : DT) : DT := fun e Q => f e fun d1 e1 => h e1 fun d2 e2 => g d1 d2 fun z => match z with
  | .bool true => k e2 fun d3 e3 => g' d2 d3 fun z' => match z' with
    | .bool true => m e3 fun d4 e4 => g'' d3 d4 fun d => Q d e4
    | .bool false => Q (.bool false) e3
    | _ => False
  | .bool false => Q (.bool false) e2
  | _ => False
theorem de_chain3 {op op' op'' : CmpOp} {r r' r'' : R2} {g g' g'' : G2} {f h k m : DT} (ho : OpR X (compareOp op) r) (ho' : OpR X (compareOp op') r') (ho'' : OpR X (compareOp op'') r'') (hg : OpS X.K r g) (hg' : OpS X.K r' g') (hg'' : OpD X.K r'' g'') (ha : DE X a f) (hb : DE X b h) (hc : DE X c k) (hd : DE X d m)
    (hm : lastMarks [op, op', op''] [b, c, d] = false := by with_unfolding_all rfl) : DE X (.Compare a [op, op', op''] [b, c, d] pos) (dChain3 g g' g'' f h k m) := by
  refine ⟨fun w => PE.imp (pe_chain3 ho ho' ho'' (ha.run w) (hb.run w) (hc.run w) (hd.run w) hm) ?_, fun e Q Q' mm q => ?_⟩
  · rintro σ H Q ⟨F, ad, e, R, q⟩
    refine ⟨F, ad, e, R, ha.mono _ _ _ (fun d1 e1 q1 F1 ad1 H1 v1 s1 R1 p1 => ?_) q⟩
    refine ⟨F1, ad1, e1, R1, hb.mono _ _ _ (fun d2 e2 q2 F2 ad2 H2 v2 s2 R2 p2 => ?_) q1⟩
    refine hg.run F2 H2 v1 v2 d1 d2 _ R2.sub (dp_mono s2 _ _ p1) p2 (hg.mono _ _ _ _ (fun z q3 v p3 => ?_) q2)
    cases z with
    | bool kk =>
      cases kk with
      | true =>
        refine ⟨true, dp_bool p3, ?_⟩
        rw [if_pos rfl]
        refine ⟨F2, ad2, e2, R2, hc.mono _ _ _ (fun d3 e3 q4 F3 ad3 H3 v3 s3 R3 p4 => ?_) q3⟩
        refine hg'.run F3 H3 v2 v3 d2 d3 _ R3.sub (dp_mono s3 _ _ p2) p4 (hg'.mono _ _ _ _ (fun z' q5 v' p5 => ?_) q4)
        cases z' with
        | bool kk =>
          cases kk with
          | true =>
            refine ⟨true, dp_bool p5, ?_⟩
            rw [if_pos rfl]
            refine ⟨F3, ad3, e3, R3, hd.mono _ _ _ (fun d4 e4 q6 F4 ad4 H4 v4 s4 R4 p6 => ?_) q5⟩
            refine hg''.run F4 H4 v3 v4 d3 d4 Q R4.sub (dp_mono s4 _ _ p4) p6 (hg''.mono _ _ _ _ (fun dd q7 v5 F5 H5 gr p7 => ?_) q6)
            exact q7 F5 ad4 H5 v5 (((s1.trans s2).trans (s3.trans s4)).trans (gr.same R4.sub)) (gr.rel R4) p7
          | false =>
            refine ⟨false, dp_bool p5, ?_⟩
            rw [if_neg Bool.false_ne_true]
            exact q5 F3 ad3 H3 _ ((s1.trans s2).trans s3) R3 (.bl false)
        | _ => exact q5.elim
      | false =>
        refine ⟨false, dp_bool p3, ?_⟩
        rw [if_neg Bool.false_ne_true]
        exact q3 F2 ad2 H2 _ (s1.trans s2) R2 (.bl false)
    | _ => exact q3.elim
  · refine ha.mono _ _ _ (fun d1 e1 q1 => hb.mono _ _ _ (fun d2 e2 q2 => hg.mono _ _ _ _ (fun z q3 => ?_) q2) q1) q
    cases z with
    | bool kk =>
      cases kk with
      | true =>
        refine hc.mono _ _ _ (fun d3 e3 q4 => hg'.mono _ _ _ _ (fun z' q5 => ?_) q4) q3
        cases z' with
        | bool kk =>
          cases kk with
          | true => exact hd.mono _ _ _ (fun d4 e4 q6 => hg''.mono _ _ _ _ (fun dd q7 => mm _ _ q7) q6) q5
          | false => exact mm _ _ q5
        | _ => exact q5.elim
      | false => exact mm _ _ q3
    | _ => exact q3.elim
end
/-! ### slices -/
def cutD (ds : List D) (lo hi : Option Int) : List D := (ds.drop (HT.sIx ds.length 0 lo)).take (HT.sIx ds.length ds.length hi - HT.sIx ds.length 0 lo)
section
variable {X : Cx} {a b : Expr} {lo hi : Option Expr} {f h : DT} {fl fh : DO} {pos p2 p1 p3 pp : Pos}
def dONo : DO := fun e Q => Q none e
def dOI (f : DT) : DO := fun e Q => f e fun d e' => match d with
  | .int i => Q (some i) e'
  | _ => False
theorem do_no : DOp X none dONo := ⟨fun w => ⟨fun p s σ H Q I ⟨F, ad, e, R, q⟩ => po_none.run p s σ H Q I (q F ad H (Same.refl F) R)⟩, fun e Q Q' m q => m _ _ q⟩
theorem do_some (ha : DE X a f) : DOp X (some a) (dOI f) := by
  refine ⟨fun w => ⟨fun p s σ H Q I q => (po_some (ha.run w)).run p s σ H Q I ?_⟩, fun e Q Q' m q => ha.mono _ _ _ (fun d e1 q1 => ?_) q⟩
  · obtain ⟨F, ad, e, R, q⟩ := q
    refine ⟨F, ad, e, R, ha.mono _ _ _ (fun d e1 q1 F1 ad1 H1 v s1 R1 p1 => ?_) q⟩
    cases d with
    | int i => exact ⟨i, dp_int p1, q1 F1 ad1 H1 s1 R1⟩
    | _ => exact q1.elim
  · cases d with
    | int i => exact m _ _ q1
    | _ => exact q1.elim
def dSl (f : DT) (fl fh : DO) : DT := fun e Q => f e fun d e1 => fl e1 fun l e2 => fh e2 fun u e3 => match d with
  | .list ds => Q (.list (cutD ds l u)) e3
  | .tuple ds => ¬ (HT.sIx ds.length 0 l = 0 ∧ HT.sIx ds.length ds.length u = ds.length) ∧ Q (.tuple (cutD ds l u)) e3
  | _ => False
theorem de_slice (ha : DE X a f) (hl : DOp X lo fl) (hh : DOp X hi fh) : DE X (.Subscript a (.Slice lo hi none p2) pos) (dSl f fl fh) := by
  refine ⟨fun w => PE.imp (pe_slice (SlR.or sl_list sl_tup) (ha.run w) (hl.run w) (hh.run w)) ?_, fun e Q Q' m q => ha.mono _ _ _ (fun d e1 q1 => hl.mono _ _ _ (fun l e2 q2 => hh.mono _ _ _ (fun u e3 q3 => ?_) q2) q1) q⟩
  · rintro σ H Q ⟨F, ad, e, R, q⟩
    refine ⟨F, ad, e, R, ha.mono _ _ _ (fun d e1 q1 F1 ad1 H1 v s1 R1 p1 => ?_) q⟩
    refine ⟨F1, ad1, e1, R1, hl.mono _ _ _ (fun l e2 q2 F2 ad2 H2 s2 R2 => ?_) q1⟩
    refine ⟨F2, ad2, e2, R2, hh.mono _ _ _ (fun u e3 q3 F3 ad3 H3 s3 R3 => ?_) q2⟩
    cases d with
    | list ds =>
      obtain ⟨p, xs, rfl, h1, h2⟩ := dp_list (dp_mono (s2.trans s3) _ _ p1)
      refine .inl ⟨p, xs, rfl, R3.sub.seq h1, fun pn hp => ?_⟩
      have sm := same_upd (o := .lst (cutV xs l u)) R3.sub hp
      exact q3 _ ad3 _ _ ((s1.trans (s2.trans s3)).trans (same_upd R3.sub hp)) (R3.grow hp) (.lst (Rd.of upd_same) (dpAll_mono sm _ _ (dpAll_cut h2 l u)))
    | tuple ds =>
      obtain ⟨p, xs, rfl, h1, h2⟩ := dp_tup (dp_mono (s2.trans s3) _ _ p1)
      have hlen := dpAll_len h2
      refine .inr ⟨p, xs, rfl, sqT_mono R3.sub h1, by rw [hlen]; exact q3.1, fun pn hp => ?_⟩
      have sm := same_upd (o := .tup (cutV xs l u)) R3.sub hp
      exact q3.2 _ ad3 _ _ ((s1.trans (s2.trans s3)).trans (same_upd R3.sub hp)) (R3.grow hp) (.tup (SqT.of upd_same) (dpAll_mono sm _ _ (dpAll_cut h2 l u)))
    | _ => exact q3.elim
  · cases d with
    | list ds => exact m _ _ q3
    | tuple ds => exact ⟨q3.1, m _ _ q3.2⟩
    | _ => exact q3.elim
/-- .. of a list of one's own, which stays so -/
def dSlN (i : Nat) (fl fh : DO) : DT := fun e Q => (∃ ds, slLst e[i]? = some ds) ∧ fl e fun l e2 => fh e2 fun u e3 => match slLst e3[i]? with
  | some ds => Q (.list (cutD ds l u)) e3
  | none => False
theorem de_sliceN (i : Nat) (ho : PE X a (tVar i)) (hl : DOp X lo fl) (hh : DOp X hi fh) : DE X (.Subscript a (.Slice lo hi none p2) pos) (dSlN i fl fh) := by
  refine ⟨fun w => PE.imp (pe_slice (SlR.or sl_list sl_tup) ho (hl.run w) (hh.run w)) ?_, fun e Q Q' m q => ⟨q.1, hl.mono _ _ _ (fun l e2 q2 => hh.mono _ _ _ (fun u e3 q3 => ?_) q2) q.2⟩⟩
  · rintro σ H Q ⟨F, ad, e, R, ⟨ds0, q0⟩, q⟩
    obtain ⟨p, xs0, h0, _⟩ := R.ownedL q0
    refine ⟨_, h0, F, ad, e, R, hl.mono _ _ _ (fun l e2 q2 F2 ad2 H2 s2 R2 => ?_) q⟩
    refine ⟨F2, ad2, e2, R2, hh.mono _ _ _ (fun u e3 q3 F3 ad3 H3 s3 R3 => ?_) q2⟩
    split at q3
    · rename_i ds hds
      obtain ⟨p3, xs, h3, h4, h5, _⟩ := R3.ownedL hds
      rw [h0] at h3
      cases h3
      refine .inl ⟨p, xs, rfl, SqL.of h4, fun pn hp => ?_⟩
      have sm := same_upd (o := .lst (cutV xs l u)) R3.sub hp
      exact q3 _ ad3 _ _ ((s2.trans s3).trans (same_upd R3.sub hp)) (R3.grow hp) (.lst (Rd.of upd_same) (dpAll_mono sm _ _ (dpAll_cut h5 l u)))
    · exact q3.elim
  · split at q3
    · exact m _ _ q3
    · exact q3.elim
/-- xs[::-1], a list -/
def dRev (f : DT) : DT := fun e Q => f e fun d e' => match d with
  | .list ds => Q (.list ds.reverse) e'
  | _ => False
theorem de_rev {k : Nat} (ha : DE X a f) : DE X (.Subscript a (.Slice none none (some (.UnaryOp .USub (.Constant (.int 1) k p1) p2)) p3) pos) (dRev f) := by
  refine ⟨fun w => PE.imp (pe_revL (ha.run w)) ?_, fun e Q Q' m q => ha.mono _ _ _ (fun d e1 q1 => ?_) q⟩
  · rintro σ H Q ⟨F, ad, e, R, q⟩
    refine ⟨F, ad, e, R, ha.mono _ _ _ (fun d e1 q1 F1 ad1 H1 v s1 R1 pq => ?_) q⟩
    cases d with
    | list ds =>
      obtain ⟨p, xs, rfl, h1, h2⟩ := dp_list pq
      refine ⟨p, xs, rfl, R1.sub.seq h1, fun pn hp => ?_⟩
      have sm := same_upd (o := .lst xs.reverse) R1.sub hp
      exact q1 _ ad1 _ _ (s1.trans (same_upd R1.sub hp)) (R1.grow hp) (.lst (Rd.of upd_same) (dpAll_mono sm _ _ (dpAll_rev h2)))
    | _ => exact q1.elim
  · cases d with
    | list ds => exact m _ _ q1
    | _ => exact q1.elim
/-! ### zip -/
def zipD : List D → List D → List D
  | x :: xs, y :: ys => .tuple [x, y] :: zipD xs ys
  | _, _ => []
theorem zipD_len : ∀ (xs ys : List D), (zipD xs ys).length = min xs.length ys.length
  | [], _ => by simp [zipD]
  | _ :: _, [] => by simp [zipD]
  | _ :: xs, _ :: ys => by
    show (zipD xs ys).length + 1 = _
    rw [zipD_len xs ys, List.length_cons, List.length_cons]
    omega
theorem zipD_get : ∀ {xs ys : List D} {i : Nat} {d : D}, (zipD xs ys)[i]? = some d → ∃ x y, xs[i]? = some x ∧ ys[i]? = some y ∧ d = .tuple [x, y]
  | x :: xs, y :: ys, 0, d, h => ⟨x, y, rfl, rfl, (Option.some.inj h).symm⟩
  | x :: xs, y :: ys, i + 1, d, h => zipD_get (xs := xs) (ys := ys) (i := i) h
  | [], _, _, _, h => by simp [zipD] at h
  | _ :: _, [], _, _, h => by simp [zipD] at h
def dItZ (r : DA) : DI := fun e Q => r e fun ds e' => match ds with
  | [.list xs, .list ys] => Q (zipD xs ys) e'
  | [.tuple xs, .tuple ys] => Q (zipD xs ys) e'
  | _ => False
theorem di_zip {elts : List Expr} {kk : Nat} {tpos : Pos} {r : DA} {x : Expr} (hr : DAr X [a, b] r) (hp : ∀ ta, PA X [a, b] ta → PI X (.Tuple elts kk tpos) x (RZ.iZipA X.K ta)) : DIt X (.Tuple elts kk tpos) x (dItZ r) := by
  refine ⟨fun w => PI.imp (hp _ (hr.run w)) ?_, fun e Q Q' m q => hr.mono _ _ _ (fun ds e' q' => ?_) q⟩
  · rintro σ H R ⟨F, ad, e, Rl, q⟩
    refine ⟨F, ad, e, Rl, hr.mono _ _ _ (fun ds e' q' F' ad' H' vs s' R' p => ?_) q⟩
    split at q'
    · rename_i xs ys
      match vs, p with
      | [v1, v2], .cons k1 (.cons k2 .nil) =>
        obtain ⟨p1, us, rfl, h1, h2⟩ := dp_list k1
        obtain ⟨p2, ws, rfl, h3, h4⟩ := dp_list k2
        refine ⟨p1, p2, us, ws, rfl, .inl ⟨R'.sub.seq h1, R'.sub.seq h3, q' F' ad' H' _ s' R' ⟨fun i H2 sm l => ?_, fun i H2 sm l => ?_, fun i H2 H3 x d sm y hd => ?_⟩⟩⟩
        · rw [zipD_len] at l
          have l1 : i < us.length := by rw [dpAll_len h2]; omega
          have l2 : i < ws.length := by rw [dpAll_len h4]; omega
          exact ⟨us, ws, _, _, sm.seq h1, sm.seq h3, List.getElem?_eq_getElem l1, List.getElem?_eq_getElem l2⟩
        · rw [zipD_len] at l
          refine ⟨us, ws, sm.seq h1, sm.seq h3, ?_⟩
          rw [dpAll_len h2, dpAll_len h4]
          omega
        · obtain ⟨T, x1, y1, rfl, hT, rfl, g1, g2⟩ := y
          obtain ⟨dx, dy, e1, e2, rfl⟩ := zipD_get hd
          obtain ⟨x2, z1, z2⟩ := dpAll_got h2 e1
          obtain ⟨y2, z3, z4⟩ := dpAll_got h4 e2
          have q1 := g1 us (sm.seq h1)
          have q2 := g2 ws (sm.seq h3)
          rw [z1] at q1
          rw [z3] at q2
          cases q1
          cases q2
          have s2 := same_upd (o := .tup [x1, y1]) sm hT
          exact ⟨upd F' T (.tup [x1, y1]), .tup (SqT.of upd_same) (.cons (dp_mono s2 _ _ z2) (.cons (dp_mono s2 _ _ z4) .nil)), .inr ⟨T, _, hT, rfl, rfl⟩⟩
    · rename_i xs ys
      match vs, p with
      | [v1, v2], .cons k1 (.cons k2 .nil) =>
        obtain ⟨p1, us, rfl, h1, h2⟩ := dp_tup k1
        obtain ⟨p2, ws, rfl, h3, h4⟩ := dp_tup k2
        refine ⟨p1, p2, us, ws, rfl, .inr ⟨sqT_mono R'.sub h1, sqT_mono R'.sub h3, q' F' ad' H' _ s' R' ⟨fun i H2 sm l => ?_, fun i H2 sm l => ?_, fun i H2 H3 x d sm y hd => ?_⟩⟩⟩
        · rw [zipD_len] at l
          have l1 : i < us.length := by rw [dpAll_len h2]; omega
          have l2 : i < ws.length := by rw [dpAll_len h4]; omega
          exact ⟨us, ws, _, _, sqT_mono sm h1, sqT_mono sm h3, List.getElem?_eq_getElem l1, List.getElem?_eq_getElem l2⟩
        · rw [zipD_len] at l
          refine ⟨us, ws, sqT_mono sm h1, sqT_mono sm h3, ?_⟩
          rw [dpAll_len h2, dpAll_len h4]
          omega
        · obtain ⟨T, x1, y1, rfl, hT, rfl, g1, g2⟩ := y
          obtain ⟨dx, dy, e1, e2, rfl⟩ := zipD_get hd
          obtain ⟨x2, z1, z2⟩ := dpAll_got h2 e1
          obtain ⟨y2, z3, z4⟩ := dpAll_got h4 e2
          have q1 := g1 us (sqT_mono sm h1)
          have q2 := g2 ws (sqT_mono sm h3)
          rw [z1] at q1
          rw [z3] at q2
          cases q1
          cases q2
          have s2 := same_upd (o := .tup [x1, y1]) sm hT
          exact ⟨upd F' T (.tup [x1, y1]), .tup (SqT.of upd_same) (.cons (dp_mono s2 _ _ z2) (.cons (dp_mono s2 _ _ z4) .nil)), .inr ⟨T, _, hT, rfl, rfl⟩⟩
    · exact q'.elim
  · split at q'
    · exact m _ _ q'
    · exact m _ _ q'
    · exact q'.elim
end
end DL

/-! The D layer, part 11: pairs of which the first is a thing of one's own; tuples backwards. -/
namespace DL
open PySem PySem.Spec PyProof.Rows L2
section
variable {X : Cx} {a b c : Expr} {h k : DT} {f : DF} {st : Stmt}
theorem pe_any (hb : DE X b h) : PE X b (fun σ H Q => ∃ w' : Wd, EL X.K w' h σ H Q) := ⟨fun p s σ H Q I ⟨w', q⟩ => (hb.run w').run p s σ H Q I q⟩
/-- x, y = {..}, e -/
def dParF (i j : Nat) (f : DF) (h : DT) : DSt := fun D e => f e fun o e1 => h e1 fun d e2 => D.nx ((e2.set i (.mu o)).set j (.im d))
theorem ds_parF {i j : Nat} (ha : DFe X a f) (hb : DE X b h) (hp : ∀ ta, PA X [a, b] ta → PS X st (tPar i j ta)) (h1 : starEach (a :: [b]) X.env = (false, eval a X.env) :: starEach [b] X.env := by rfl) (h2 : starEach (b :: []) X.env = (false, eval b X.env) :: starEach [] X.env := by rfl) : DS X st (dParF i j f h) := by
  refine ⟨fun w => PS.imp (hp _ (pa_cons (ha.run w) (pa_cons (pe_any hb) pa_nil h2) h1)) ?_, fun A B e l q => ha.mono _ _ _ (fun o e1 q1 => hb.mono _ _ _ (fun d e2 q2 => l.nx _ q2) q1) q⟩
  rintro D σ H ⟨F, ad, e, R, q⟩
  refine ⟨F, ad, e, R, ha.mono _ _ _ (fun o e1 q1 F1 ad1 H1 l ho s1 R1 z fr p => ?_) q⟩
  refine ⟨here w F1 ad1 H1 e1, F1, ad1, e1, R1.rebase, hb.mono _ _ _ (fun d e2 q2 F2 ad2 H2 v s2 R2 p2 => ?_) q1⟩
  obtain ⟨z2, fr2⟩ := R1.keeps R2 z fr
  have B := ((R1.back R2).setMu (i := i) z2 fr2 (ow_mono R2.old p)).set (i := j) p2
  exact ⟨_, _, rfl, q2 F2 _ _ H2 B⟩
/-- x, y, z = {..}, e, g -/
def dParF3 (i j l : Nat) (f : DF) (h k : DT) : DSt := fun D e => f e fun o e1 => h e1 fun d e2 => k e2 fun d' e3 => D.nx (((e3.set i (.mu o)).set j (.im d)).set l (.im d'))
theorem ds_parF3 {i j l : Nat} (ha : DFe X a f) (hb : DE X b h) (hc : DE X c k) (hp : ∀ ta, PA X [a, b, c] ta → PS X st (tPar3 i j l ta)) (h1 : starEach (a :: [b, c]) X.env = (false, eval a X.env) :: starEach [b, c] X.env := by rfl) (h2 : starEach (b :: [c]) X.env = (false, eval b X.env) :: starEach [c] X.env := by rfl) (h3 : starEach (c :: []) X.env = (false, eval c X.env) :: starEach [] X.env := by rfl) : DS X st (dParF3 i j l f h k) := by
  refine ⟨fun w => PS.imp (hp _ (pa_cons (ha.run w) (pa_cons (pe_any hb) (pa_cons (pe_any hc) pa_nil h3) h2) h1)) ?_, fun A B e l q => ha.mono _ _ _ (fun o e1 q1 => hb.mono _ _ _ (fun d e2 q2 => hc.mono _ _ _ (fun d' e3 q3 => l.nx _ q3) q2) q1) q⟩
  rintro D σ H ⟨F, ad, e, R, q⟩
  refine ⟨F, ad, e, R, ha.mono _ _ _ (fun o e1 q1 F1 ad1 H1 al ho s1 R1 z fr p => ?_) q⟩
  refine ⟨here w F1 ad1 H1 e1, F1, ad1, e1, R1.rebase, hb.mono _ _ _ (fun d e2 q2 F2 ad2 H2 v s2 R2 p2 => ?_) q1⟩
  refine ⟨here w F1 ad1 H1 e1, F2, ad2, e2, R2, hc.mono _ _ _ (fun d' e3 q3 F3 ad3 H3 v3 s3 R3 p3 => ?_) q2⟩
  obtain ⟨z2, fr2⟩ := R1.keeps R3 z fr
  have B := (((R1.back R3).setMu (i := i) z2 fr2 (ow_mono R3.old p)).set (i := j) (dp_mono s3 _ _ p2)).set (i := l) p3
  exact ⟨_, _, _, rfl, q3 F3 _ _ H3 B⟩
end
section
variable {e : Env} {Q : D → Env → Prop} {S : List D → Env → Prop} {SO : Ow → Env → Prop} {f h k m : DT} {fl fh : DO} {r : DA} {D0 : DEnds} {g g' g'' : G2} {i j l : Nat} {rf : DF}
@[simp ↓] theorem s_dnew : dDNew e SO = SO (.dct []) e := rfl
@[simp ↓] theorem s_dlM {ds : List (Key × D)} : slDct (some (.mu (.dct ds))) = some ds := rfl
@[simp ↓] theorem s_dlB {ds : List (Key × D)} : slDct (some (.bo (.dct ds))) = some ds := rfl
@[simp ↓] theorem s_keyI {x : Int} : keyOf (.int x) = some (.inl x) := rfl
@[simp ↓] theorem s_keyS {x : Str} : keyOf (.str x) = some (.inr x) := rfl
@[simp ↓] theorem s_dput : dDPut i k f D0 e = f e fun d e1 => (ge i e1 fun z => ∃ ds, slDct z = some ds) ∧ k e1 fun dk e2 => ge i e2 fun z => match keyOf dk, slDct z with
  | some kk, some ds => ds.length < sizeLine ∧ ∀ s, slPut z (.dct (putD ds kk d)) = some s → st i s e2 D0.nx
  | _, _ => False := rfl
@[simp ↓] theorem s_dget2 : dDGet2 i k f e Q = ((ge i e fun z => ∃ ds, slDct z = some ds) ∧ k e fun dk e1 => (ge i e1 fun z => ∃ ds, slDct z = some ds) ∧ f e1 fun dz e2 => ge i e2 fun z => match keyOf dk, slDct z with
  | some kk, some ds => Q ((valD ds kk).getD dz) e2
  | _, _ => False) := rfl
@[simp ↓] theorem s_itK : dItK f e S = f e fun d e' => match d with
  | .dict kvs => (kvs.all fun p => (keyOf p.1).isSome) = true ∧ S (kvs.map (·.1)) e'
  | _ => False := rfl
@[simp ↓] theorem s_chain3 : dChain3 g g' g'' f h k m e Q = f e fun d1 e1 => h e1 fun d2 e2 => g d1 d2 fun z => match z with
  | .bool true => k e2 fun d3 e3 => g' d2 d3 fun z' => match z' with
    | .bool true => m e3 fun d4 e4 => g'' d3 d4 fun d => Q d e4
    | .bool false => Q (.bool false) e3
    | _ => False
  | .bool false => Q (.bool false) e2
  | _ => False := rfl
@[simp ↓] theorem s_ono {T : Option Int → Env → Prop} : dONo e T = T none e := rfl
@[simp ↓] theorem s_oi {T : Option Int → Env → Prop} : dOI f e T = f e fun d e' => match d with
  | .int i => T (some i) e'
  | _ => False := rfl
@[simp ↓] theorem s_sl : dSl f fl fh e Q = f e fun d e1 => fl e1 fun l e2 => fh e2 fun u e3 => match d with
  | .list ds => Q (.list (cutD ds l u)) e3
  | .tuple ds => ¬ (HT.sIx ds.length 0 l = 0 ∧ HT.sIx ds.length ds.length u = ds.length) ∧ Q (.tuple (cutD ds l u)) e3
  | _ => False := rfl
@[simp ↓] theorem s_slN : dSlN i fl fh e Q = ((ge i e fun z => ∃ ds, slLst z = some ds) ∧ fl e fun l e2 => fh e2 fun u e3 => ge i e3 fun z => match slLst z with
  | some ds => Q (.list (cutD ds l u)) e3
  | none => False) := rfl
@[simp ↓] theorem s_rev : dRev f e Q = f e fun d e' => match d with
  | .list ds => Q (.list ds.reverse) e'
  | _ => False := rfl
@[simp ↓] theorem s_itZ : dItZ r e S = r e fun ds e' => match ds with
  | [.list xs, .list ys] => S (zipD xs ys) e'
  | [.tuple xs, .tuple ys] => S (zipD xs ys) e'
  | _ => False := rfl
@[simp ↓] theorem s_parF : dParF i j rf h D0 e = rf e fun o e1 => h e1 fun d e2 => st i (.mu o) e2 fun e3 => st j (.im d) e3 D0.nx := rfl
@[simp ↓] theorem s_parF3 : dParF3 i j l rf h k D0 e = rf e fun o e1 => h e1 fun d e2 => k e2 fun d' e3 => st i (.mu o) e3 fun e4 => st j (.im d) e4 fun e5 => st l (.im d') e5 D0.nx := rfl
end
end DL

/-! The D layer, part 12: tuples backwards. -/
namespace DL
open PySem PySem.Spec PyProof.Rows L2
section
variable {prog : Program} {w : World} {A : Around} {E : Value → Shared → Prop} {s : Shared}
theorem adjust_rev (n : Nat) : Builtin.Slice.sliceAdjust none none (-1) (n : Int) = ((n : Int) - 1, -1) := by
  unfold Builtin.Slice.sliceAdjust
  rfl
theorem places_rev (n : Nat) : Builtin.Slice.slicePlaces ((n : Int) - 1) (-1) (-1) = n := by
  unfold Builtin.Slice.slicePlaces
  have h1 : ¬ ((-1 : Int) > 0) := by omega
  simp only [h1, if_false]
  split <;> simp <;> omega
theorem sliceApplied_rev {sl : Addr} {vl vu vs : Value} {n : Nat} {Q : Int × Int × Nat → Shared → Prop} (hs : s.heap.IsSliceOf sl vl vu vs) (pl : IsPart vl none) (pu : IsPart vu none) (ps : IsPart vs (some (-1)))
    (h : Q ((n : Int) - 1, -1, n) s) : wpAny (model prog w) A (Builtin.Slice.sliceApplied (.ref sl) (pure (n : Int))) Q E s := by
  obtain ⟨os, hos, hcs, hds⟩ := id hs
  unfold Builtin.Slice.sliceApplied Builtin.Slice.sliceFields
  refine wpAny_bind (wpAny_bind (wpAny_field hos hds (x := vl) rfl (wpAny_bind (wpAny_field hos hds (x := vu) rfl (wpAny_bind (wpAny_field hos hds (x := vs) rfl (wpAny_pure ?_)))))))
  refine wpAny_bind (HT.slicePart_ ps ?_)
  show wpAny _ _ (if ((-1 : Int) == 0) = true then _ else _) _ _ s
  rw [if_neg (by decide)]
  refine wpAny_bind (HT.slicePart_ pl (wpAny_bind (HT.slicePart_ pu (wpAny_bind (wpAny_pure ?_)))))
  show wpAny _ _ (match Builtin.Slice.sliceAdjust none none (-1) (n : Int) with | (lo, hi) => pure (lo, (-1 : Int), Builtin.Slice.slicePlaces lo hi (-1))) _ _ s
  rw [adjust_rev n]
  show wpAny _ _ (pure ((n : Int) - 1, (-1 : Int), Builtin.Slice.slicePlaces ((n : Int) - 1) (-1) (-1))) _ _ s
  rw [places_rev]
  exact wpAny_pure h
theorem pick_rev (xs : Array Value) : ((List.range xs.size).filterMap fun (m : Nat) => xs[((xs.size : Int) - 1 + (m : Int) * (-1)).toNat]?).toArray = xs.toList.reverse.toArray := by
  have e : (List.range xs.size).filterMap (fun (m : Nat) => xs[((xs.size : Int) - 1 + (m : Int) * (-1)).toNat]?) = ((List.range xs.size).map fun k => xs.size - 1 - k).filterMap (xs[·]?) := by
    rw [List.filterMap_map]
    refine congrArg (fun f => (List.range xs.size).filterMap f) (funext fun m => ?_)
    show xs[((xs.size : Int) - 1 + (m : Int) * (-1)).toNat]? = xs[xs.size - 1 - m]?
    rw [show ((xs.size : Int) - 1 + (m : Int) * (-1)).toNat = xs.size - 1 - m by omega]
  rw [e, PySem.W.krv_range, List.filterMap_reverse, PySem.W.krv_all]
theorem getItem_tuple_rev {t sl : Addr} {items : Array Value} {vl vu vs : Value} {Q : Value → Shared → Prop} (ht : IsTup s.heap t items) (hs : s.heap.IsSliceOf sl vl vu vs) (pl : IsPart vl none) (pu : IsPart vu none) (ps : IsPart vs (some (-1)))
    (h : Q (.ref s.heap.objs.size) { s with heap := s.heap.push { cls := .type "tuple", data := .seq items.toList.reverse.toArray } })
    (hsz : items.size ≤ sizeLine) : wpAny (model prog w) A (getItem (.ref t) (.ref sl)) Q E s := by
  have htake : sizeOk (.seq items.toList.reverse.toArray) := by
    show items.toList.reverse.toArray.size ≤ sizeLine
    rw [List.size_toArray, List.length_reverse, Array.length_toList]
    exact hsz
  obtain ⟨os, hos, hcs, hds⟩ := id hs
  have hTs : s.TypeIs (.ref sl) "slice" := ⟨os, hos, hcs⟩
  unfold getItem
  try with_reducible refine wpAny_holding ?_
  first | refine wpAny_bind (wpAny_pure ?_) | skip
  refine wpAny_bind (wpAny_sequenceKey ht.typeIs (by decide) ?_)
  refine wpAny_bind (wpAny_callSpecial?_slot (name := Str.ofString "__getitem__") ht.typeIs PyProof.Rows.slot_tuple_getitem
    (wpAny_call_entry PyProof.Rows.slot_tuple_getitem ht.typeIs PyProof.Rows.entry_tuple_getitem ?_ (PyProof.Rows.args_tuple_getitem _ _)))
  show wpAny _ _ (Builtin.Tuple.tupleItemsOf (.ref t) >>= _) _ _ s
  refine wpAny_bind (tupleItemsOf_ ht ?_)
  refine wpAny_bind (wpAny_typeOf hTs ?_)
  rw [if_pos (by decide)]
  refine wpAny_bind (sliceApplied_rev hs pl pu ps ?_)
  show wpAny _ _ (if (((items.size : Int) - 1) == 0 && (-1 : Int) == 1 && items.size == items.size) = true then _ else _) _ _ s
  rw [if_neg (by simp), pick_rev]
  first
    | exact wpAny_bind (m := Builtin.Tuple.tupleExact _) (wpAny_newObj_type (wpAny_pure ⟨_, rfl, wpAny_pure h⟩) htake)
    | exact wpAny_bind (m := Builtin.Tuple.tupleExact _) (wpAny_newObj_type (wpAny_bind (wpAny_pure (wpAny_pure ⟨_, rfl, wpAny_pure h⟩))) htake)
    | exact wpAny_bind (wpAny_bind (m := Builtin.Tuple.tupleExact _) (wpAny_newObj_type (wpAny_pure (wpAny_pure ⟨_, rfl, wpAny_pure h⟩)) htake))
    | exact wpAny_bind (wpAny_bind (m := Builtin.Tuple.tupleExact _) (wpAny_newObj_type (wpAny_pure ⟨_, rfl, wpAny_pure h⟩) htake))
end
section
variable {X : Cx} {e : Expr} {te : TE} {k : Nat} {p1 p2 p3 pos : Pos}
/-- xs[::-1], a list or a tuple -/
def tRevA (K : PySem.W.Frag) (te : TE) : TE := fun σ H Q => te σ H fun x H1 => ∃ a xs, x = .ref a ∧ ((SqL K H1 a xs ∧ ∀ p, H1 p = none → Q (.ref p) (upd H1 p (.lst xs.reverse))) ∨ (SqT K H1 a xs ∧ ∀ p, H1 p = none → Q (.ref p) (upd H1 p (.tup xs.reverse))))
theorem pe_revA (he : PE X e te) : PE X (.Subscript e (.Slice none none (some (.UnaryOp .USub (.Constant (.int 1) k p1) p2)) p3) pos) (tRevA X.K te) := by
  refine ⟨fun pins s σ H Q I h => ?_⟩
  refine Subscript_ (thn (he.run pins s σ H _ I h) fun v s1 ⟨x, H1, I1, r1, q1⟩ => ?_)
  obtain ⟨a, xs, ex, q1⟩ := q1
  subst ex
  cases r1
  have hst : PO X (some (.UnaryOp .USub (.Constant (.int 1) k p1) p2)) (tPart (tUn (rU fun i => .int (-i)) (tC (.int 1)))) := po_some (pe_un un_neg pe_int)
  refine wpAny_Slice (thn (po_none.run pins s1 σ H1 (fun o H2 => o = none ∧ H2 = H1) I1 ⟨rfl, rfl⟩) fun vl s2 ⟨l, H2, I2, pl, el, e2⟩ => ?_)
  subst el e2
  refine thn (po_none.run pins s2 σ H2 (fun o H3 => o = none ∧ H3 = H2) I2 ⟨rfl, rfl⟩) fun vu s3 ⟨u, H3, I3, pu, eu, e3⟩ => ?_
  subst eu e3
  refine thn (hst.run pins s3 σ H3 (fun o H4 => o = some (-1) ∧ H4 = H3) I3 ⟨1, rfl, -1, rfl, rfl, rfl⟩) fun vs s4 ⟨o, H4, I4, ps, eo, e4⟩ => ?_
  subst eo e4
  have I5 : Inv X pins σ H4 { s4 with heap := s4.heap.push { cls := .type "slice", data := .fields #[vl, vu, vs] } } := I4.kept (t' := s4.toks) fun b ob q => Heap.get?_push_of_some _ q
  show wpAny (model X.prog X.w) X.A (subscriptTail e (.Slice none none (some (.UnaryOp .USub (.Constant (.int 1) k p1) p2)) p3) (.ref a) (.ref s4.heap.objs.size)) (EP X pins σ Q) X.xe { s4 with heap := s4.heap.push { cls := .type "slice", data := .fields #[vl, vu, vs] } }
  rcases q1 with ⟨hx, q⟩ | ⟨hx, q⟩
  · obtain ⟨its, r, ht, hz⟩ := I5.list hx
    have hlen := r.length
    refine tail_any (ops := [.ref a, .ref s4.heap.objs.size]) ht.isList.typeIs (PySem.slot_list_getitem.lookup) ?_ (by with_unfolding_all rfl)
    refine wpAny_getItem_list_slice ht.isList (Heap.IsSliceOf.new _ vl vu vs) pl pu ps (by decide) ?_ (by rw [List.size_toArray]; omega)
    rw [PySem.W.krv_pick]
    refine ⟨.ref _, _, I5.laid (t' := s4.toks) (o := .lst xs.reverse) (fun b ob q => Heap.get?_push_of_some _ q) (Nat.le_refl _) ?_, rfl, q _ (I5.hok.fresh (Nat.le_refl _))⟩
    exact ⟨by rw [List.length_reverse]; exact hz, _, 0, r.reverse, Heap.get?_push_size _ rfl⟩
  · obtain ⟨its, r, ht, hz⟩ := I5.tuple hx
    have hlen := r.length
    refine tail_any (ops := [.ref a, .ref s4.heap.objs.size]) ht.typeIs (PyProof.Rows.slot_tuple_getitem.lookup) ?_ (by with_unfolding_all rfl)
    refine getItem_tuple_rev ht (Heap.IsSliceOf.new _ vl vu vs) pl pu ps ?_ (by rw [List.size_toArray]; omega)
    refine ⟨.ref _, _, I5.laid (t' := s4.toks) (o := .tup xs.reverse) (fun b ob q => Heap.get?_push_of_some _ q) (Nat.le_refl _) ?_, rfl, q _ (I5.hok.fresh (Nat.le_refl _))⟩
    exact ⟨by rw [List.length_reverse]; exact hz, _, r.reverse, IsTup.new _ _⟩
end
section
variable {X : Cx} {a : Expr} {f : DT} {k : Nat} {p1 p2 p3 pos : Pos}
/-- .. -/
def dRevA (f : DT) : DT := fun e Q => f e fun d e' => match d with
  | .list ds => Q (.list ds.reverse) e'
  | .tuple ds => Q (.tuple ds.reverse) e'
  | _ => False
theorem de_revA (ha : DE X a f) : DE X (.Subscript a (.Slice none none (some (.UnaryOp .USub (.Constant (.int 1) k p1) p2)) p3) pos) (dRevA f) := by
  refine ⟨fun w => PE.imp (pe_revA (ha.run w)) ?_, fun e Q Q' m q => ha.mono _ _ _ (fun d e1 q1 => ?_) q⟩
  · rintro σ H Q ⟨F, ad, e, R, q⟩
    refine ⟨F, ad, e, R, ha.mono _ _ _ (fun d e1 q1 F1 ad1 H1 v s1 R1 pq => ?_) q⟩
    cases d with
    | list ds =>
      obtain ⟨p, xs, rfl, h1, h2⟩ := dp_list pq
      refine ⟨p, xs, rfl, .inl ⟨R1.sub.seq h1, fun pn hp => ?_⟩⟩
      have sm := same_upd (o := .lst xs.reverse) R1.sub hp
      exact q1 _ ad1 _ _ (s1.trans (same_upd R1.sub hp)) (R1.grow hp) (.lst (Rd.of upd_same) (dpAll_mono sm _ _ (dpAll_rev h2)))
    | tuple ds =>
      obtain ⟨p, xs, rfl, h1, h2⟩ := dp_tup pq
      refine ⟨p, xs, rfl, .inr ⟨sqT_mono R1.sub h1, fun pn hp => ?_⟩⟩
      have sm := same_upd (o := .tup xs.reverse) R1.sub hp
      exact q1 _ ad1 _ _ (s1.trans (same_upd R1.sub hp)) (R1.grow hp) (.tup (SqT.of upd_same) (dpAll_mono sm _ _ (dpAll_rev h2)))
    | _ => exact q1.elim
  · cases d with
    | list ds => exact m _ _ q1
    | tuple ds => exact m _ _ q1
    | _ => exact q1.elim
@[simp ↓] theorem s_revA {e : Env} {Q : D → Env → Prop} : dRevA f e Q = f e fun d e' => match d with
  | .list ds => Q (.list ds.reverse) e'
  | .tuple ds => Q (.tuple ds.reverse) e'
  | _ => False := rfl
end
/-- nothing is promised, nothing is to be shown -/
theorem cal_none {P : Program} {w : World} {K : PySem.W.Frag} {mg : Str → Option Value} {base : Heap} {k : Nat} {x : Str} {st : Stmt} {ps : List Str} (A : DefAt K mg x st ps) : Cal P w K mg base k x (spD K fun _ _ => False) := by
  obtain ⟨f, fd, F, m, b⟩ := A.ex
  exact ⟨f, fd, ps, m, F.kp, b, ⟨fun vs H Q E ⟨_, _, _, _, h⟩ => h.elim, fun A outer s H args us vs Q E _ _ _ _ ⟨_, _, _, _, h⟩ => h.elim⟩⟩
end DL

/-! The D layer, part 13: plain helps that many laws use. -/
namespace DL
open PySem PySem.Spec PyProof.Rows L2
theorem gcd_step {l r : Int} (hl : 0 ≤ l) (hr : 0 < r) : Int.gcd r (l % r) = Int.gcd l r := by
  obtain ⟨a, rfl⟩ := Int.eq_ofNat_of_zero_le hl
  obtain ⟨b, rfl⟩ := Int.eq_ofNat_of_zero_le (Int.le_of_lt hr)
  rw [← Int.natCast_emod]
  simp only [Int.gcd_natCast_natCast]
  rw [Nat.gcd_comm a b, Nat.gcd_rec b a, Nat.gcd_comm]
/-! sizes -/
def Bd (k : Nat) (x : Int) : Prop := x.natAbs < 2 ^ k
theorem Bd.mono {k m : Nat} {x : Int} (h : Bd k x) (hm : k ≤ m) : Bd m x := Nat.lt_of_lt_of_le h (Nat.pow_le_pow_right (by decide) hm)
theorem Bd.mul {k m : Nat} {x y : Int} (h : Bd k x) (h' : Bd m y) : Bd (k + m) (x * y) := by
  unfold Bd at *
  rw [Int.natAbs_mul, Nat.pow_add]
  exact Nat.mul_lt_mul'' h h'
theorem Bd.add {k m : Nat} {x y : Int} (h : Bd k x) (h' : Bd m y) : Bd (k + m + 1) (x + y) := by
  have h1 := h.mono (show k ≤ k + m by omega)
  have h2 := h'.mono (show m ≤ k + m by omega)
  unfold Bd at *
  rw [Nat.pow_succ]
  omega
theorem Bd.neg {k : Nat} {x : Int} (h : Bd k x) : Bd k (-x) := by unfold Bd at *; omega
theorem Bd.sub {k m : Nat} {x y : Int} (h : Bd k x) (h' : Bd m y) : Bd (k + m + 1) (x - y) := by rw [Int.sub_eq_add_neg]; exact h.add h'.neg
theorem Bd.le {k : Nat} {x y : Int} (h : Bd k x) (h' : y.natAbs ≤ x.natAbs) : Bd k y := Nat.lt_of_le_of_lt h' h
theorem mulB {k m : Nat} {x y : Int} (h : Bd k x) (h' : Bd m y) (hk : k ≤ 9000) (hm : m ≤ 9000) : CMulW x y := mulW (h.mono hk) (h'.mono hm)
theorem divB {k : Nat} {x y : Int} (h0 : 0 < y) (h : Bd k y) (hk : k ≤ 9000) : CDivW x y := divW h0 (h.mono hk)
theorem bd_gcd {t b : Int} {k : Nat} (hb : 0 < b) (h : Bd k b) : Bd k (Int.gcd t b : Nat) := h.le (by
  have := Int.le_of_dvd hb (Int.gcd_dvd_right t b)
  omega)
/-! the makers -/
structure Eu (N l r u v : Int) : Prop where
  sg : (0 ≤ u ∧ v ≤ 0 ∧ u * r - v * l = N) ∨ (u ≤ 0 ∧ 0 ≤ v ∧ v * l - u * r = N)
theorem Eu.step {N l r u v : Int} (h : Eu N l r u v) (hl : 0 ≤ l) (hr : 0 < r) : Eu N r (l - l / r * r) v (u - l / r * v) := by
  have t0 : 0 ≤ l / r := Int.ediv_nonneg hl (by omega)
  generalize l / r = t at *
  rcases h.sg with ⟨h1, h2, h3⟩ | ⟨h1, h2, h3⟩
  · refine ⟨.inr ⟨h2, ?_, ?_⟩⟩
    · have := Int.mul_nonneg t0 (show 0 ≤ -v by omega)
      have e : t * -v = -(t * v) := by grind
      omega
    · grind
  · refine ⟨.inl ⟨h2, ?_, ?_⟩⟩
    · have := Int.mul_nonneg t0 h2
      omega
    · grind
theorem Eu.small {N l r u v : Int} (h : Eu N l r u v) (hl : 0 < l) (hr : 0 ≤ r) : v.natAbs ≤ N.natAbs := by
  rcases h.sg with ⟨h1, h2, h3⟩ | ⟨h1, h2, h3⟩
  · have a1 := Int.mul_nonneg h1 hr
    have a2 : -v * 1 ≤ -v * l := Int.mul_le_mul_of_nonneg_left (by omega) (by omega)
    have e : -v * l = -(v * l) := by grind
    omega
  · have a1 := Int.mul_nonneg (show 0 ≤ -u by omega) hr
    have e : -u * r = -(u * r) := by grind
    have a2 : v * 1 ≤ v * l := Int.mul_le_mul_of_nonneg_left (by omega) (by omega)
    omega
theorem bd0 : Bd 101 0 := by unfold Bd; exact Nat.two_pow_pos _
theorem bd1 : Bd 101 1 := by
  have : Bd 1 1 := by unfold Bd; decide
  exact this.mono (by omega)
structure MkI (a b l r u1 u2 v1 v2 : Int) : Prop where
  hl : 0 < l
  hr : 0 ≤ r
  hg : Int.gcd l r = Int.gcd a b
  i1 : u1 * a + u2 * b = l
  i2 : v1 * a + v2 * b = r
  E1 : Eu b l r u1 v1
  E2 : Eu a l r u2 v2
  B1 : Bd 101 u1
  B2 : Bd 101 u2
  B3 : Bd 101 l
  B4 : Bd 101 r
theorem MkI.step {a b l r u1 u2 v1 v2 : Int} (h1 : Bd 101 a) (h2 : Bd 101 b) (h : MkI a b l r u1 u2 v1 v2) (hz : 0 < r) : MkI a b r (l - l / r * r) v1 v2 (u1 - l / r * v1) (u2 - l / r * v2) := by
  have m1 := Int.emod_lt_of_pos l hz
  have m2 := Int.emod_nonneg l (show r ≠ 0 by omega)
  have m3 : l - l / r * r = l % r := by
    have := Int.emod_add_mul_ediv l r
    have e : r * (l / r) = l / r * r := Int.mul_comm _ _
    omega
  have i1 := h.i1
  have i2 := h.i2
  refine ⟨hz, by omega, by rw [m3, gcd_step (Int.le_of_lt h.hl) hz, h.hg], i2, ?_, h.E1.step (Int.le_of_lt h.hl) hz, h.E2.step (Int.le_of_lt h.hl) hz, h2.le (h.E1.small h.hl h.hr), h1.le (h.E2.small h.hl h.hr), h.B4, ?_⟩
  · generalize l / r = t at *
    rw [← i1, ← i2]
    grind
  · rw [m3]
    exact h.B4.le (by omega)
theorem MkI.bt {a b l r u1 u2 v1 v2 : Int} (h : MkI a b l r u1 u2 v1 v2) (hz : 0 < r) : Bd 101 (l / r) := by
  have hl := h.hl
  have t0 : 0 ≤ l / r := Int.ediv_nonneg (by omega) (by omega)
  have t1 : l / r ≤ l := Int.ediv_le_self _ (by omega)
  exact h.B3.le (by omega)
theorem MkI.lt {l r : Int} (hl : 0 ≤ l) (hz : 0 < r) : (l - l / r * r).toNat < r.toNat := by
  have m1 := Int.emod_lt_of_pos l hz
  have m2 := Int.emod_nonneg l (show r ≠ 0 by omega)
  have := Int.emod_add_mul_ediv l r
  have e : r * (l / r) = l / r * r := Int.mul_comm _ _
  omega
theorem bdN {k : Nat} (h : k ≤ 10 ^ 12) : Bd 101 (k : Int) := Nat.lt_of_le_of_lt (show ((k : Int)).natAbs ≤ 10 ^ 12 from h) (by decide)
theorem bdI {x : Int} (h : x.natAbs ≤ 10 ^ 12) : Bd 101 x := Nat.lt_of_le_of_lt h (by decide)
theorem sz {n : Nat} (h : n ≤ 900) : n < sizeLine := small1000 (by omega)
theorem intsOf_of : ∀ ns : List Int, intsOf (ns.map PyData.int) = some ns
  | [] => rfl
  | i :: r => by
    show (intsOf (r.map PyData.int)).map (i :: ·) = _
    rw [intsOf_of r]; rfl
theorem list_get {L : List Int} {i : Nat} {d : D} (h : (L.map PyData.int)[i]? = some d) : ∃ c, L[i]? = some c ∧ d = .int c := by
  rw [List.getElem?_map] at h
  cases z : L[i]? with
  | none => rw [z] at h; cases h
  | some c => rw [z] at h; exact ⟨c, rfl, (Option.some.inj h).symm⟩
theorem bd_g {g : Int} (h0 : 0 ≤ g) (h : g < 10 ^ 110) : Bd 400 g := Nat.lt_of_lt_of_le (show g.natAbs < 10 ^ 110 by omega) (by decide +kernel)
theorem bd_s {s : Int} (h0 : 0 ≤ s) (h : s < 2 ^ 64) : Bd 64 s := by unfold Bd; omega
/-- the law's dice -/
def Dice (o : Ow) : Prop := ∃ g s : Int, o = .lst [.int g, .int s] ∧ 0 ≤ g ∧ g < 10 ^ 110 ∧ 0 ≤ s ∧ s < 2 ^ 64
theorem dice_ok (A B : Int) : Dice (.lst [.int (A % 100000000000000000000000000000000000000000000000000000000000000000000000000000000000000000000000000000000000000), .int (B % 18446744073709551616)]) := by
  refine ⟨_, _, rfl, Int.emod_nonneg _ (by decide), ?_, Int.emod_nonneg _ (by decide), ?_⟩
  · exact Int.lt_of_lt_of_le (Int.emod_lt_of_pos _ (by decide)) (by decide)
  · exact Int.lt_of_lt_of_le (Int.emod_lt_of_pos _ (by decide)) (by decide)
/-! comprehensions over known data, turn by turn -/
def runC (gd : DTg) (t : DB) (f : DT) (vs : List Nat) (S : Ow → Env → Prop) : List D → List D → Env → Prop
  | [], acc, e => S (.lst acc) e
  | d :: r, acc, e => gd d e fun e3 => t e3 fun k e4 => if k = true then f e4 fun y e5 => acc.length < sizeLine ∧ runC gd t f vs S r (acc ++ [y]) (wipeE e5 vs) else runC gd t f vs S r acc (wipeE e4 vs)
theorem runC_nil {gd : DTg} {t : DB} {f : DT} {vs : List Nat} {S : Ow → Env → Prop} {acc : List D} {e : Env} : runC gd t f vs S [] acc e = S (.lst acc) e := rfl
theorem runC_cons {gd : DTg} {t : DB} {f : DT} {vs : List Nat} {S : Ow → Env → Prop} {acc r : List D} {d : D} {e : Env} : runC gd t f vs S (d :: r) acc e = gd d e fun e3 => t e3 fun k e4 => if k = true then f e4 fun y e5 => acc.length < sizeLine ∧ runC gd t f vs S r (acc ++ [y]) (wipeE e5 vs) else runC gd t f vs S r acc (wipeE e4 vs) := rfl
theorem comp_by {gd : DTg} {t : DB} {f : DT} {vs : List Nat} {S : Ow → Env → Prop} {ds : List D} {e1 : Env} (h : runC gd t f vs S ds [] (wipeE e1 vs)) : ∃ Pv : Nat → List D → Env → Prop, Pv 0 [] (wipeE e1 vs) ∧
    (∀ i d acc e2, ds[i]? = some d → Pv i acc e2 → gd d e2 fun e3 => t e3 fun k e4 => if k = true then f e4 fun y e5 => acc.length < sizeLine ∧ Pv (i + 1) (acc ++ [y]) (wipeE e5 vs) else Pv (i + 1) acc (wipeE e4 vs)) ∧
    ∀ acc e2, Pv ds.length acc e2 → S (.lst acc) e2 := by
  refine ⟨fun i acc e => runC gd t f vs S (ds.drop i) acc e, h, fun i d acc e2 q p => ?_, fun acc e2 p => ?_⟩
  · have hi : i < ds.length := (List.getElem?_eq_some_iff.mp q).1
    have e : ds.drop i = d :: ds.drop (i + 1) := by
      rw [List.drop_eq_getElem_cons hi]
      rw [List.getElem?_eq_getElem hi] at q
      rw [Option.some.inj q]
    have p' : runC gd t f vs S (ds.drop i) acc e2 := p
    rw [e] at p'
    exact p'
  · have p' : runC gd t f vs S (ds.drop ds.length) acc e2 := p
    rw [List.drop_length] at p'
    exact p'
theorem comp_runT {ff : DT} {gd : DTg} {t : DB} {f : DT} {vs : List Nat} {S : Ow → Env → Prop} {ds : List D} {e e1 : Env} (hr : ∀ Q : D → Env → Prop, Q (.tuple ds) e1 → ff e Q) (h : runC gd t f vs S ds [] (wipeE e1 vs)) : dComp (dItT ff) gd t f vs e S := hr _ (comp_by h)
theorem comp_runL {ff : DT} {gd : DTg} {t : DB} {f : DT} {vs : List Nat} {S : Ow → Env → Prop} {ds : List D} {e e1 : Env} (hr : ∀ Q : D → Env → Prop, Q (.list ds) e1 → ff e Q) (h : runC gd t f vs S ds [] (wipeE e1 vs)) : dComp (dItL ff) gd t f vs e S := hr _ (comp_by h)
@[simp ↓] theorem s_tyT {ds : List D} : tyName (.tuple ds) = "tuple" := rfl
@[simp ↓] theorem s_tyL {ds : List D} : tyName (.list ds) = "list" := rfl
@[simp] theorem kit_tt : kitB "tuple" "tuple" = some true := by decide +kernel
@[simp] theorem kit_it : kitB "int" "tuple" = some false := by decide +kernel
@[simp] theorem kit_lt : kitB "list" "tuple" = some false := by decide +kernel
@[simp] theorem bools1 {a : Bool} : boolsOf [.bool a] = some [a] := rfl
@[simp] theorem bools2 {a b : Bool} : boolsOf [.bool a, .bool b] = some [a, b] := rfl
end DL

/-! The D layer, part 14: equality with itself, lists at their ends. -/
namespace DL
open PySem PySem.Spec PyProof.Rows L2
def Pl (n : Nat) (d : D) : Prop := d.canLay0 = true ∧ d.depth ≤ n
theorem pl_int {n : Nat} {i : Int} : Pl n (.int i) := ⟨by simp [PyData.canLay0], by simp [PyData.depth]⟩
theorem pl_none {n : Nat} : Pl n .none := ⟨by simp [PyData.canLay0], by simp [PyData.depth]⟩
theorem pl_bool {n : Nat} {b : Bool} : Pl n (.bool b) := ⟨by simp [PyData.canLay0], by simp [PyData.depth]⟩
theorem pl_all {n : Nat} : ∀ {ds : List D}, (∀ d ∈ ds, Pl n d) → PyData.canLayAll0 ds = true ∧ PyData.depthAll ds ≤ n
  | [], _ => ⟨by simp [PyData.canLayAll0], by simp [PyData.depthAll]⟩
  | d :: ds, h => by
    have h1 := h d (List.mem_cons_self ..)
    have h2 := pl_all (ds := ds) fun x hx => h x (List.mem_cons_of_mem _ hx)
    simp only [PyData.canLayAll0, PyData.depthAll, h1.1, h2.1, Bool.and_self, true_and]
    exact Nat.max_le.mpr ⟨h1.2, h2.2⟩
theorem pl_tup {n : Nat} {ds : List D} (h : ∀ d ∈ ds, Pl n d) : Pl (n + 1) (.tuple ds) := by
  have := pl_all h
  exact ⟨by simp only [PyData.canLay0]; exact this.1, by simp only [PyData.depth]; omega⟩
theorem pl_list {n : Nat} {ds : List D} (h : ∀ d ∈ ds, Pl n d) : Pl (n + 1) (.list ds) := by
  have := pl_all h
  exact ⟨by simp only [PyData.canLay0]; exact this.1, by simp only [PyData.depth]; omega⟩
theorem Pl.sh {n : Nat} {d : D} (h : Pl n d) (hn : n ≤ 64) : SeqAt.shaped d = true := by
  unfold SeqAt.shaped
  rw [h.1, Bool.true_and]
  exact decide_eq_true (Nat.le_trans h.2 hn)
theorem gEq_any {x y : D} {P : D → Prop} (h1 : SeqAt.shaped x = true) (h2 : SeqAt.shaped y = true) (h : P (.bool (PyData.eqv x y))) : gEq x y P := by
  unfold gEq
  split
  · rw [eqv_int] at h; exact h
  · exact ⟨h1, h2, h⟩
theorem gNe_any {x y : D} {P : D → Prop} (h1 : SeqAt.shaped x = true) (h2 : SeqAt.shaped y = true) (h : P (.bool (!PyData.eqv x y))) : gNe x y P := by
  unfold gNe
  split
  · rw [eqv_int] at h; exact h
  · exact ⟨h1, h2, h⟩
theorem gEq_self {x : D} {P : D → Prop} {n : Nat} (h1 : Pl n x) (hn : n ≤ 64) (h : P (.bool true)) : gEq x x P :=
  gEq_any (h1.sh hn) (h1.sh hn) (by rw [SeqAt.eqv_refl x h1.1]; exact h)
theorem gNe_self {x : D} {P : D → Prop} {n : Nat} (h1 : Pl n x) (hn : n ≤ 64) (h : P (.bool false)) : gNe x x P :=
  gNe_any (h1.sh hn) (h1.sh hn) (by rw [SeqAt.eqv_refl x h1.1]; exact h)
theorem pl_pair {x y : Int} : Pl 1 (.tuple [.int x, .int y]) := pl_tup fun d h => by
  simp at h
  rcases h with rfl | rfl <;> exact pl_int
theorem at_last2 {α : Type} {pre : List α} {x y : α} : atI (pre ++ [x, y]) (-1) = some y := by
  unfold atI ixN
  have l : (pre ++ [x, y]).length = pre.length + 2 := by simp
  rw [l, if_neg (by omega), if_pos (by omega)]
  show (pre ++ [x, y])[((-1 : Int) + ((pre.length + 2 : Nat) : Int)).toNat]? = _
  rw [show ((-1 : Int) + ((pre.length + 2 : Nat) : Int)).toNat = pre.length + 1 by omega, List.getElem?_append_right (by omega), show pre.length + 1 - pre.length = 1 by omega]
  rfl
theorem at_last {α : Type} {pre : List α} {y : α} : atI (pre ++ [y]) (-1) = some y := by
  unfold atI ixN
  have l : (pre ++ [y]).length = pre.length + 1 := by simp
  rw [l, if_neg (by omega), if_pos (by omega)]
  show (pre ++ [y])[((-1 : Int) + ((pre.length + 1 : Nat) : Int)).toNat]? = _
  rw [show ((-1 : Int) + ((pre.length + 1 : Nat) : Int)).toNat = pre.length by omega, List.getElem?_append_right (by omega), show pre.length - pre.length = 0 by omega]
  rfl
theorem cut_last2 {pre : List D} {x y : D} : cutD (pre ++ [x, y]) (some (-2)) none = [x, y] := by
  unfold cutD
  have l : (pre ++ [x, y]).length = pre.length + 2 := by simp
  rw [l, HT.sIx_none]
  have e : HT.sIx (pre.length + 2) 0 (some (-2)) = pre.length := by
    unfold HT.sIx
    simp
    omega
  rw [e, List.drop_left, show pre.length + 2 - pre.length = 2 by omega]
  rfl
theorem cut_tail {x : D} {r : List D} : cutD (x :: r) (some 1) none = r := by
  unfold cutD
  rw [HT.sIx_none]
  have e : HT.sIx (x :: r).length 0 (some 1) = 1 := by
    unfold HT.sIx
    simp
  rw [e]
  show r.take ((r.length + 1) - 1) = r
  rw [show r.length + 1 - 1 = r.length by omega, List.take_length]
theorem cut_tail_ne {x : D} {r : List D} : ¬ (HT.sIx (x :: r).length 0 (some 1) = 0 ∧ HT.sIx (x :: r).length (x :: r).length none = (x :: r).length) := by
  intro h
  have e : HT.sIx (x :: r).length 0 (some 1) = 1 := by
    unfold HT.sIx
    simp
  omega
theorem for_keys {b : DSt} {D0 : DEnds} {e : DL.Env} {ff : DT} {gg : DTg} {L : List D} {e1 : DL.Env} (hr : ∀ Q : D → DL.Env → Prop, (∀ kvs : List (D × D), kvs.map (·.1) = L → Q (.dict kvs) e1) → ff e Q) (hk : ∀ d ∈ L, (keyOf d).isSome = true) (Pv : Nat → DL.Env → Prop) (h0 : Pv 0 e1)
    (hs : ∀ (i : Nat) d e2, L[i]? = some d → Pv i e2 → gg d e2 fun e3 => b { D0 with nx := Pv (i + 1), ct := Pv (i + 1), bk := D0.nx } e3) (hd : ∀ e2, Pv L.length e2 → D0.nx e2) : dFor (dItK ff) gg b D0 e := by
  refine hr _ fun kvs hL => ⟨?_, Pv, h0, fun i d e2 q p => hs i d e2 (by rw [← hL]; exact q) p, fun e2 p => hd e2 (by rw [← hL]; exact p)⟩
  rw [List.all_eq_true]
  intro x hx
  exact hk _ (by rw [← hL]; exact List.mem_map_of_mem hx)
theorem for_zipT {b : DSt} {D0 : DEnds} {e : DL.Env} {rr : DA} {gg : DTg} {xs ys : List D} {e1 : DL.Env} (hr : ∀ S : List D → DL.Env → Prop, S [.tuple xs, .tuple ys] e1 → rr e S) (Pv : Nat → DL.Env → Prop) (h0 : Pv 0 e1)
    (hs : ∀ (i : Nat) x y e2, xs[i]? = some x → ys[i]? = some y → Pv i e2 → gg (.tuple [x, y]) e2 fun e3 => b { D0 with nx := Pv (i + 1), ct := Pv (i + 1), bk := D0.nx } e3) (hd : ∀ e2, Pv (min xs.length ys.length) e2 → D0.nx e2) : dFor (dItZ rr) gg b D0 e := by
  refine hr _ ⟨Pv, h0, fun i d e2 q p => ?_, fun e2 p => hd e2 (by rw [zipD_len] at p; exact p)⟩
  obtain ⟨x, y, h1, h2, rfl⟩ := zipD_get q
  exact hs i x y e2 h1 h2 p
theorem for_zipL {b : DSt} {D0 : DEnds} {e : DL.Env} {rr : DA} {gg : DTg} {xs ys : List D} {e1 : DL.Env} (hr : ∀ S : List D → DL.Env → Prop, S [.list xs, .list ys] e1 → rr e S) (Pv : Nat → DL.Env → Prop) (h0 : Pv 0 e1)
    (hs : ∀ (i : Nat) x y e2, xs[i]? = some x → ys[i]? = some y → Pv i e2 → gg (.tuple [x, y]) e2 fun e3 => b { D0 with nx := Pv (i + 1), ct := Pv (i + 1), bk := D0.nx } e3) (hd : ∀ e2, Pv (min xs.length ys.length) e2 → D0.nx e2) : dFor (dItZ rr) gg b D0 e := by
  refine hr _ ⟨Pv, h0, fun i d e2 q p => ?_, fun e2 p => hd e2 (by rw [zipD_len] at p; exact p)⟩
  obtain ⟨x, y, h1, h2, rfl⟩ := zipD_get q
  exact hs i x y e2 h1 h2 p
theorem comp_tup {t : DB} {f : DT} {SO : Ow → DL.Env → Prop} {e : DL.Env} {ff : DT} {gg : DTg} {vs : List Nat} {ds : List D} {e1 : DL.Env} (hr : ∀ Q : D → DL.Env → Prop, Q (.tuple ds) e1 → ff e Q) (Pv : Nat → List D → DL.Env → Prop) (h0 : Pv 0 [] (wipeE e1 vs))
    (hs : ∀ (i : Nat) d acc e2, ds[i]? = some d → Pv i acc e2 → gg d e2 fun e3 => t e3 fun k e4 => if k = true then f e4 fun y e5 => acc.length < sizeLine ∧ Pv (i + 1) (acc ++ [y]) (wipeE e5 vs) else Pv (i + 1) acc (wipeE e4 vs))
    (hd : ∀ acc e2, Pv ds.length acc e2 → SO (.lst acc) e2) : dComp (dItT ff) gg t f vs e SO :=
  hr _ ⟨Pv, h0, hs, hd⟩
@[simp ↓] theorem s_none_tup {ds : List D} : isNone (.tuple ds) = false := rfl
@[simp ↓] theorem s_none_list {ds : List D} : isNone (.list ds) = false := rfl
@[simp ↓] theorem s_none_dict {ds : List (D × D)} : isNone (.dict ds) = false := rfl
@[simp ↓] theorem s_none_bool {b : Bool} : isNone (.bool b) = false := rfl
theorem co_dvd {b a x : Int} (h : b ∣ a * x) (co : Int.gcd b a = 1) : b ∣ x := by
  have h1 : b.natAbs ∣ a.natAbs * x.natAbs := by rw [← Int.natAbs_mul]; exact Int.natAbs_dvd_natAbs.mpr h
  exact Int.natAbs_dvd_natAbs.mp (Nat.Coprime.dvd_of_dvd_mul_left (show Nat.Coprime b.natAbs a.natAbs from co) h1)
theorem bezN : ∀ (k a b : Nat), b < k → ∃ x y : Int, x * a + y * b = (Nat.gcd a b : Nat)
  | 0, _, _, h => by omega
  | k + 1, a, b, h => by
    by_cases c : b = 0
    · subst c
      exact ⟨1, 0, by simp⟩
    · have l := Nat.mod_lt a (show 0 < b by omega)
      obtain ⟨x, y, e⟩ := bezN k b (a % b) (by omega)
      refine ⟨y, x - y * (a / b : Nat), ?_⟩
      have e1 : Nat.gcd a b = Nat.gcd b (a % b) := by rw [Nat.gcd_comm a b, Nat.gcd_rec b a, Nat.gcd_comm]
      rw [e1, ← e]
      have e2 : (a : Int) = b * (a / b : Nat) + (a % b : Nat) := by
        have := Nat.div_add_mod a b
        rw [← Int.natCast_mul, ← Int.natCast_add, this]
      generalize ((a / b : Nat) : Int) = t at *
      generalize ((a % b : Nat) : Int) = r at *
      rw [e2]
      grind
theorem bez {a b : Int} (ha : 0 ≤ a) (hb : 0 ≤ b) : ∃ x y : Int, x * a + y * b = (Int.gcd a b : Nat) := by
  obtain ⟨m, rfl⟩ := Int.eq_ofNat_of_zero_le ha
  obtain ⟨n, rfl⟩ := Int.eq_ofNat_of_zero_le hb
  rw [Int.gcd_natCast_natCast]
  exact bezN (n + 1) m n (by omega)
theorem parts {t b : Int} (hb : 0 < b) : ∃ u v : Int, t / (Int.gcd t b : Nat) = u ∧ b / (Int.gcd t b : Nat) = v ∧ t = u * (Int.gcd t b : Nat) ∧ b = v * (Int.gcd t b : Nat) ∧ Int.gcd u v = 1 ∧ 0 < v ∧ 0 < ((Int.gcd t b : Nat) : Int) := by
  have hg : 0 < Int.gcd t b := Int.gcd_pos_of_ne_zero_right t (by omega)
  have h1 : t / (Int.gcd t b : Nat) * (Int.gcd t b : Nat) = t := Int.ediv_mul_cancel (Int.gcd_dvd_left t b)
  have h2 : b / (Int.gcd t b : Nat) * (Int.gcd t b : Nat) = b := Int.ediv_mul_cancel (Int.gcd_dvd_right t b)
  refine ⟨_, _, rfl, rfl, h1.symm, h2.symm, Int.gcd_ediv_gcd_ediv_gcd hg, ?_, by omega⟩
  refine Int.pos_of_mul_pos_left (b := ((Int.gcd t b : Nat) : Int)) ?_ (by omega)
  rw [h2]; exact hb
theorem for_rng2 {b : DSt} {D0 : DEnds} {e : DL.Env} {rr : DA} {gg : DTg} {i0 j : Int} {e1 : DL.Env} (hr : ∀ S : List D → DL.Env → Prop, S [.int i0, .int j] e1 → rr e S) (h1 : -(2 ^ 62) ≤ i0 ∧ i0 < 2 ^ 62 ∧ -(2 ^ 62) ≤ j ∧ j < 2 ^ 62) (Pv : Nat → DL.Env → Prop) (h0 : Pv 0 e1)
    (hs : ∀ (i : Nat) e2, i0 + (i : Int) < j → Pv i e2 → gg (.int (i0 + i)) e2 fun e3 => b { D0 with nx := Pv (i + 1), ct := Pv (i + 1), bk := D0.nx } e3) (hd : ∀ e2, Pv (j - i0).toNat e2 → D0.nx e2) : dFor (dRng2 rr) gg b D0 e := by
  refine hr _ ⟨h1, Pv, h0, fun i d e2 q p => ?_, fun e2 p => hd e2 (by rw [upto_len] at p; exact p)⟩
  obtain ⟨l, rfl⟩ := upto_get _ _ _ q
  exact hs i e2 (by omega) p
theorem map_get {α : Type} {f : α → D} {L : List α} {i : Nat} {d : D} (h : (L.map f)[i]? = some d) : ∃ c, L[i]? = some c ∧ d = f c := by
  rw [List.getElem?_map] at h
  cases z : L[i]? with
  | none => rw [z] at h; cases h
  | some c => rw [z] at h; exact ⟨c, rfl, (Option.some.inj h).symm⟩
theorem take_S {α : Type} {L : List α} {i : Nat} {c : α} (h : L[i]? = some c) : L.take (i + 1) = L.take i ++ [c] := by
  rw [List.take_add_one, h]
  rfl
theorem mem_get {α : Type} {L : List α} {i : Nat} {c : α} (h : L[i]? = some c) : c ∈ L := List.mem_of_getElem? h
end DL

/-! The D layer, part 15: instances of classes with slots. -/
namespace DL
open PySem PySem.Spec PyProof.Rows L2
/-- where the classes stand -/
class Clss where
  adr : Str → Addr
theorem optR_get {K : PySem.W.Frag} {F : Hp} : ∀ {vs : List (Option V)} {fs : List (Option D)} {k : Nat} {d : D}, OptR K F vs fs → fs[k]? = some (some d) → ∃ v, vs[k]? = some (some v) ∧ Dq K F v d
  | _, _, 0, d, .none t, h => by cases h
  | _, _, 0, d, .some p t, h => by cases h; exact ⟨_, rfl, p⟩
  | _, _, k + 1, d, .none t, h => optR_get (k := k) t h
  | _, _, k + 1, d, .some p t, h => optR_get (k := k) t h
  | _, _, k, d, .nil, h => by simp at h
theorem optR_len {K : PySem.W.Frag} {F : Hp} : ∀ {vs : List (Option V)} {fs : List (Option D)}, OptR K F vs fs → vs.length = fs.length
  | _, _, .nil => rfl
  | _, _, .none t => congrArg (· + 1) (optR_len t)
  | _, _, .some _ t => congrArg (· + 1) (optR_len t)
theorem optR_put {K : PySem.W.Frag} {F : Hp} {v : V} {d : D} (p : Dq K F v d) : ∀ {vs : List (Option V)} {fs : List (Option D)} (k : Nat), OptR K F vs fs → OptR K F (vs.set k (some v)) (fs.set k (some d))
  | _, _, _, .nil => .nil
  | _, _, 0, .none t => .some p t
  | _, _, 0, .some _ t => .some p t
  | _, _, k + 1, .none t => .none (optR_put p k t)
  | _, _, k + 1, .some q t => .some q (optR_put p k t)
theorem optR_nones {K : PySem.W.Frag} {F : Hp} : ∀ n : Nat, OptR K F (List.replicate n none) (List.replicate n none)
  | 0 => .nil
  | n + 1 => .none (optR_nones n)
theorem putS_set {i : Nat} {v : V} {vs : List (Option V)} (h : i < vs.length) : SlX.putS i v vs = vs.set i (some v) := by
  unfold SlX.putS
  rw [show i + 1 - vs.length = 0 by omega, List.replicate_zero, List.append_nil]
theorem slH_old {H : Hp} {a C dx : Addr} {vs : List (Option V)} (h : H dx = some (.xd [])) : SlX.slH H a C dx vs = upd H a (SlX.SlO a C dx vs) := by
  funext b
  unfold SlX.slH
  by_cases h1 : b = a
  · rw [h1, upd_same, upd_same]
  · rw [upd_ne h1, upd_ne h1]
    by_cases h2 : b = dx
    · rw [h2, upd_same, h]
    · rw [upd_ne h2]
/-- a class of the text with the variables of its instances -/
structure ClsOk (K : PySem.W.Frag) (C : Addr) (fs : List Str) : Prop where
  sc : SlX.SCls K C
  sl : ∀ (i : Nat) (f : Str), fs[i]? = some f → ∃ p, SlX.Slot1 K C f p i
section
variable {X : Cx} {o e value : Expr} {es : List Expr} {f m : Str} {pos pos' apos : Pos} {g : DT} {r : DA} {C : Addr} {fs : List Str}
/-- x.f, x the name of an instance of one's own -/
def dFldO (C : Addr) (i k : Nat) : DT := fun e Q => match slOwn e[i]? with
  | some (.obj C' fs) => C' = C ∧ match fs[k]? with
    | some (some d) => Q d e
    | _ => False
  | _ => False
theorem Rel.slt {K : PySem.W.Frag} {w : Wd} {F : Hp} {ad : Nat → Addr} {σ : L2.St} {H : Hp} {e : Env} {i : Nat} {C : Addr} {fs : List (Option D)} (R : Rel K w F ad σ H e) (q : slOwn e[i]? = some (.obj C fs)) :
    ∃ p dx vs, σ[i]? = some (some (.ref p)) ∧ SlX.Slt H p C dx vs ∧ OptR K F vs fs ∧ dx ≠ p ∧ F dx = some (.xd []) ∧
      ∀ vs' fs', OptR K F vs' fs' → ∃ s, slPut e[i]? (.obj C fs') = some s ∧ Rel K w F ad σ (SlX.slH H p C dx vs') (e.set i s) := by
  obtain ⟨p, ho, h1, h2, h3, h4, up⟩ := R.owned q
  cases h3 with
  | @obj C dx vs fs ho g1 g2 g3 g4 =>
    subst g3
    refine ⟨p, dx, vs, h1, .inr ⟨h2, R.sub _ _ g1⟩, g4, g2, g1, fun vs' fs' z => ?_⟩
    rw [slH_old (R.sub _ _ g1)]
    exact up _ _ (.obj g1 g2 rfl z)
theorem de_fldO (i k : Nat) (c : ClsOk X.K C fs) (hf : fs[k]? = some f) (ho : PE X o (tVar i)) (hb : attributeBase o f X.env (eval o X.env) = eval o X.env := by rfl) : DE X (.Attribute o f pos) (dFldO C i k) := by
  obtain ⟨p, t⟩ := c.sl k f hf
  refine ⟨fun w => PE.imp (SlX.pe_sl ho hb) ?_, fun e Q Q' m q => ?_⟩
  · rintro σ H Q ⟨F, ad, e, R, q⟩
    unfold dFldO at q
    split at q
    · rename_i C' fs' hs
      obtain ⟨rfl, q⟩ := q
      obtain ⟨a, dx, vs, h1, h2, h3, _, _, _⟩ := R.slt hs
      split at q
      · rename_i d hd
        obtain ⟨v, g1, g2⟩ := optR_get h3 hd
        exact ⟨_, h1, a, _, dx, p, vs, k, v, rfl, h2, c.sc, t, g1, q F ad H v (Same.refl F) R g2⟩
      · exact q.elim
    · exact q.elim
  · unfold dFldO at q ⊢
    split at q
    · obtain ⟨z, q⟩ := q
      refine ⟨z, ?_⟩
      split at q
      · exact m _ _ q
      · exact q.elim
    · exact q.elim
/-- .. of an instance that is data -/
def dFldD (C : Addr) (k : Nat) (g : DT) : DT := fun e Q => g e fun d e1 => match d with
  | .dict [(.bool true, .tuple (.int c :: ds))] => c = (C : Nat) ∧ match ds[k]? with
    | some d => Q d e1
    | none => False
  | _ => False
theorem dq_obj {K : PySem.W.Frag} {F : Hp} {v : V} {c : Int} {ds : List D} (h : Dq K F v (.dict [(.bool true, .tuple (.int c :: ds))])) : ∃ (p C dx : Addr) (vs : List V), v = .ref p ∧ c = (C : Nat) ∧ F p = some (SlX.SlO p C dx (vs.map some)) ∧ F dx = some (.xd []) ∧ dx ≠ p ∧ DqAll K F vs ds := by
  generalize e : (PyData.dict [(.bool true, .tuple (.int c :: ds))]) = d at h
  cases h with
  | scr _ _ => cases e
  | dct _ h2 =>
    cases e
    cases h2 with
    | @cons k v kd d vs cs h0 _ _ => cases k <;> cases h0
  | obj h1 h2 h3 h4 =>
    cases e
    exact ⟨_, _, _, _, rfl, rfl, h1, h2, h3, h4⟩
  | _ => cases e
theorem de_fldD (k : Nat) (c : ClsOk X.K C fs) (hf : fs[k]? = some f) (ho : DE X o g) (hb : attributeBase o f X.env (eval o X.env) = eval o X.env := by rfl) : DE X (.Attribute o f pos) (dFldD C k g) := by
  obtain ⟨p, t⟩ := c.sl k f hf
  refine ⟨fun w => PE.imp (SlX.pe_sl (ho.run w) hb) ?_, fun e Q Q' m q => ho.mono _ _ _ (fun d e1 q1 => ?_) q⟩
  · rintro σ H Q ⟨F, ad, e, R, q⟩
    refine ⟨F, ad, e, R, ho.mono _ _ _ (fun d e1 q1 F1 ad1 H1 v s1 R1 p1 => ?_) q⟩
    split at q1
    · rename_i cc ds
      obtain ⟨ec, q1⟩ := q1
      split at q1
      · rename_i d hd
        obtain ⟨a, C', dx, vs, rfl, e2, h1, h2, h3, h4⟩ := dq_obj p1
        obtain rfl : C' = C := Int.ofNat.inj (e2.symm.trans ec)
        obtain ⟨x, g1, g2⟩ := dpAll_got h4 hd
        exact ⟨a, C', dx, p, vs.map some, k, x, rfl, .inr ⟨R1.sub _ _ h1, R1.sub _ _ h2⟩, c.sc, t, by rw [List.getElem?_map, g1]; rfl, q1 F1 ad1 H1 x s1 R1 g2⟩
      · exact q1.elim
    · exact q1.elim
  · split at q1
    · obtain ⟨z, q1⟩ := q1
      refine ⟨z, ?_⟩
      split at q1
      · exact m _ _ q1
      · exact q1.elim
    · exact q1.elim
/-! ### a target that is a variable of an instance -/
def gSlt (C : Addr) (to : TE) (k : Nat) : TG := fun v σ H Q => to σ H fun x H1 => ∃ a dx vs, x = .ref a ∧ SlX.Slt H1 a C dx vs ∧ Q σ (SlX.slH H1 a C dx (SlX.putS k v vs))
theorem pg_slt {to : TE} {k : Nat} {p : Addr} (c : SlX.SCls X.K C) (t : SlX.Slot1 X.K C f p k) (ho : PE X o to)
    (ha : ∀ v, assign (.Attribute o f pos) X.env v = (do let ov ← holding [v] (eval o X.env); standAt pos.atName; holding [v, ov] (setAttr ov f v); release [v, ov] []) := by intro _; rfl) : PG X (.Attribute o f pos) (gSlt C to k) := by
  refine ⟨fun pins s σ H v u Q I r h => ?_⟩
  rw [ha]
  refine wpAny_bind (wpAny_holding (thn (ho.run pins s σ H _ I h) fun ov s1 ⟨x, H1, I1, r1, q1⟩ => ?_))
  obtain ⟨a, dx, vs, ex, hs, q2⟩ := q1
  subst ex
  obtain rfl : ov = Value.ref a := r1
  refine wpAny_bind (wpAny_standAt (wpAny_bind (wpAny_holding (SlX.setslot_ok I1 hs c t r fun s2 I2 => ?_))))
  exact wpAny_release ⟨σ, _, I2, q2⟩
def dgFld (C : Addr) (i k : Nat) : DTg := fun d e T => match slOwn e[i]? with
  | some (.obj C' fs) => C' = C ∧ k < fs.length ∧ ∀ s, slPut e[i]? (.obj C (fs.set k (some d))) = some s → T (e.set i s)
  | _ => False
theorem dg_fld (i k : Nat) (c : ClsOk X.K C fs) (hf : fs[k]? = some f) (ho : PE X o (tVar i))
    (ha : ∀ v, assign (.Attribute o f pos) X.env v = (do let ov ← holding [v] (eval o X.env); standAt pos.atName; holding [v, ov] (setAttr ov f v); release [v, ov] []) := by intro _; rfl) : DG X (.Attribute o f pos) (dgFld C i k) := by
  obtain ⟨p, t⟩ := c.sl k f hf
  refine ⟨fun w => ⟨fun pins s σ H v u Q I r h => (pg_slt c.sc t ho ha).run pins s σ H v u Q I r ?_⟩, fun d e Q Q' m q => ?_⟩
  · obtain ⟨F, ad, e, d, R, pv, q⟩ := h
    unfold dgFld at q
    split at q
    · rename_i C' fs' hs
      obtain ⟨rfl, hk, q⟩ := q
      obtain ⟨a, dx, vs, h1, h2, h3, h4, h5, up⟩ := R.slt hs
      obtain ⟨s2, e2, R2⟩ := up _ _ (optR_put pv k h3)
      refine ⟨_, h1, a, dx, vs, rfl, h2, ?_⟩
      rw [putS_set (by rw [optR_len h3]; exact hk)]
      exact q s2 e2 F ad σ _ (Same.refl F) R2
    · exact q.elim
  · unfold dgFld at q ⊢
    split at q
    · exact ⟨q.1, q.2.1, fun s z => m _ (q.2.2 s z)⟩
    · exact q.elim
end
/-! ### methods -/
open PySem PySem.Spec PyProof.Rows L2
/-- a def of a class of the text -/
structure MethAt (K : PySem.W.Frag) (C : Addr) (m qual : Str) (st : Stmt) (ps : List Str) : Prop where
  ex : ∃ f fd, Fun K m qual st f fd ∧ Meth K C m f ∧ Binds K fd ps []
/-- .. that keeps a promise -/
structure MCal (P : Program) (w : World) (K : PySem.W.Frag) (mg : Str → Option Value) (base : Heap) (k : Nat) (C : Addr) (m : Str) (sp : Sp) : Prop where
  ex : ∃ f fd ps, Meth K C m f ∧ Binds K fd ps [] ∧ FnOk P w K mg base CX0 k f fd ps sp
section
variable {P : Program} {w : World} {K : PySem.W.Frag} {mg : Str → Option Value} {base : Heap} {m qual : Str} {st : Stmt} {N ps : List Str} {k n : Nat} {C : Addr}
theorem mcal_d (A : MethAt K C m qual st ps) (S : FnScope N ps (defScope st)) (t : DSt) (hn : n = ps.length)
    (body : ∀ f cdv A outer s H E, bodyRoom k qual st f cdv A s → DSs (bodyCx P w K mg base N qual st f cdv A outer s H E) (defBody st) t) : MCal P w K mg base (k + 1) C m (spD K (CLD n N t)) := by
  obtain ⟨f, fd, F, M, b⟩ := A.ex
  exact ⟨f, fd, ps, M, b, ok_D F S _ t (fun ds P c => c.1.trans hn) (body f) fun mm ds P ⟨_, P0, h, q⟩ => mm { nx := fun _ => P0 .none, rt := fun d _ => P0 d } _ _ ⟨fun _ z => h _ z, fun _ _ z => h _ z, fun _ _ z => z, fun _ z => z, fun _ z => z⟩ q⟩
theorem mcal_b (A : MethAt K C m qual st ps) (S : FnScope N ps (defScope st)) (t : DSt) (hn : n = ps.length)
    (body : ∀ f cdv A outer s H E, bodyRoom k qual st f cdv A s → DSs (bodyCx P w K mg base N qual st f cdv A outer s H E) (defBody st) t) : MCal P w K mg base (k + 1) C m (spB K (CLB n N t)) := by
  obtain ⟨f, fd, F, M, b⟩ := A.ex
  exact ⟨f, fd, ps, M, b, ok_B F S _ t (fun cs ds P c => c.1.trans hn) (body f) fun mm cs ds P ⟨_, P0, h, q⟩ => mm { nx := fun e => lentEnd P0 .none e, rt := lentEnd P0 } _ _ ⟨fun _ z => lentEnd.mono h _ _ z, fun _ _ z => lentEnd.mono h _ _ z, fun _ _ z => z, fun _ z => z, fun _ z => z⟩ q⟩
end
section
variable {X : Cx} {o e : Expr} {es : List Expr} {f m x : Str} {pos apos p : Pos} {g : DT} {r : DA} {C : Addr} {fs : List Str} {k : Nat}
/-- x.m(..), x the name of an instance of one's own (or lent) -/
def dMethO (C : Addr) (i : Nat) (CC : C1) (r : DA) : DT := fun e Q => (∃ fs, slOwn e[i]? = some (.obj C fs)) ∧ r e fun ds e1 => match slOwn e1[i]? with
  | some cs => CC cs ds fun d cs' => ∀ s, slPut e1[i]? cs' = some s → Q d (e1.set i s)
  | none => False
theorem methO_mono {i : Nat} {CC : C1} {xs : List Expr} (hC : Mono1 CC) (hr : DAr X xs r) : ∀ e (Q Q' : D → DL.Env → Prop), (∀ d e', Q d e' → Q' d e') → dMethO C i CC r e Q → dMethO C i CC r e Q' := fun e Q Q' mm q => ⟨q.1, hr.mono _ _ _ (fun ds e1 q1 => by
  cases z : slOwn e1[i]? with
  | none => rw [z] at q1; exact q1.elim
  | some cs => rw [z] at q1; exact hC _ _ _ _ (fun d cs' q2 s hs => mm _ _ (q2 s hs)) q1) q.2⟩
theorem methO_imp {i : Nat} {CC : C1} {xs : List Expr} (hC : Mono1 CC) (hr : DAr X xs r) (w : Wd) : ∀ σ H Q, EL X.K w (dMethO C i CC r) σ H Q → SlX.tMethSl C (fun vs H Q E => spB X.K CC (vs ++ []) H Q E) E0 (tVar i) (AL X.K w r) σ H Q := by
  rintro σ H Q ⟨F, ad, e, R, ⟨fs0, q0⟩, q⟩
  obtain ⟨a0, dx0, vs0, h0, hs0, _⟩ := R.slt q0
  refine ⟨_, h0, a0, dx0, vs0, rfl, hs0, F, ad, e, R, hr.mono _ _ _ (fun ds e1 q1 F1 ad1 H1 vs s1 R1 p1 => ?_) q⟩
  cases z : slOwn e1[i]? with
  | none => rw [z] at q1; exact q1.elim
  | some cs =>
    rw [z] at q1
    obtain ⟨a, xs, g1, g2, g3, g4, back⟩ := R1.lent z
    rw [h0] at g1
    cases g1
    refine ⟨F1, a0, xs, cs, vs, ds, by rw [List.append_nil], R1.sub, g2, g3, g4, p1, hC _ _ _ _ (fun d cs' q2 F2 H2 v ys sm sb fr hl hf py p => ?_) q1⟩
    obtain ⟨s, hs, R2⟩ := back F2 H2 ys cs' sm sb fr hl hf py
    exact q2 s hs F2 ad1 H2 v (s1.trans sm) R2 p
theorem calMO {CC : C1} {pl : Sem Bool} (i : Nat) (h : MCal X.prog X.w X.K X.mg X.base k C m (spB X.K CC)) (hr : Room k X.A) (hC : Mono1 CC) (c : ClsOk X.K C fs) (hv : PE X o (tVar i)) (ha : DAr X (e :: es) r) (hpl : (backTo pos (starEach es X.env)).any (·.1) = false := by rfl) (hst : starEach (e :: es) X.env = (false, eval e X.env) :: starEach es X.env := by rfl)
    (ht : eval (.Call (.Attribute o m apos) (e :: es) [] pos) X.env = (do let ov ← eval o X.env; standAt apos.atName; let (f, first) ← holding [ov] (getMethod ov m pl); callWith pos f first (backTo pos (starEach (e :: es) X.env)) (backToKw pos (keywordEach [] X.env))) := by rfl) : DE X (.Call (.Attribute o m apos) (e :: es) [] pos) (dMethO C i CC r) := by
  obtain ⟨f, fd, ps, M, b, F⟩ := h.ex
  exact ⟨fun w => PE.imp (SlX.pe_methSl hv c.sc M (F.raw b .nil) hr pass0 (ha.run w) hst hpl ht) (methO_imp hC ha w), methO_mono hC ha⟩
theorem calMO0 {CC : C1} {pl : Sem Bool} (i : Nat) (h : MCal X.prog X.w X.K X.mg X.base k C m (spB X.K CC)) (hr : Room k X.A) (hC : Mono1 CC) (c : ClsOk X.K C fs) (hv : PE X o (tVar i))
    (ht : eval (.Call (.Attribute o m apos) [] [] pos) X.env = (do let ov ← eval o X.env; standAt apos.atName; let (f, first) ← holding [ov] (getMethod ov m pl); callWith pos f first (backTo pos (starEach [] X.env)) (backToKw pos (keywordEach [] X.env))) := by rfl) : DE X (.Call (.Attribute o m apos) [] [] pos) (dMethO C i CC dNil) := by
  obtain ⟨f, fd, ps, M, b, F⟩ := h.ex
  refine ⟨fun w => PE.imp (SlX.pe_methSl0 hv c.sc M (F.raw b .nil) hr pass0 ht) ?_, methO_mono hC (X := X) (xs := []) da_nil⟩
  rintro σ H Q q
  obtain ⟨v, h1, a, dx, vs, rfl, h2, F1, ad1, e1, R1, q1⟩ := methO_imp (X := X) (xs := []) hC da_nil w σ H Q q
  exact ⟨_, h1, a, dx, vs, rfl, h2, q1 F1 ad1 H [] (Same.refl F1) R1 .nil⟩
/-- x.m(..), x data -/
def dMethD (C : Addr) (CC : C0) (g : DT) (r : DA) : DT := fun e Q => g e fun d e1 => (∃ ds, d = .dict [(.bool true, .tuple (.int (C : Nat) :: ds))]) ∧ r e1 fun ds e2 => CC (d :: ds) fun d' => Q d' e2
theorem methD_imp {CC : C0} {xs : List Expr} (hC : Mono0 CC) (ho : DE X o g) (hr : DAr X xs r) (w : Wd) : ∀ σ H Q, EL X.K w (dMethD C CC g r) σ H Q → SlX.tMethSl C (fun vs H Q E => spD X.K CC (vs ++ []) H Q E) E0 (EL X.K w g) (AL X.K w r) σ H Q := by
  rintro σ H Q ⟨F, ad, e, R, q⟩
  refine ⟨F, ad, e, R, ho.mono _ _ _ (fun d e1 q1 F1 ad1 H1 v s1 R1 p1 => ?_) q⟩
  obtain ⟨⟨fs, rfl⟩, q1⟩ := q1
  obtain ⟨a, C', dx, vs, rfl, e2, h1, h2, h3, h4⟩ := dq_obj p1
  obtain rfl : C = C' := Int.ofNat.inj e2
  refine ⟨a, dx, vs.map some, rfl, .inr ⟨R1.sub _ _ h1, R1.sub _ _ h2⟩, F1, ad1, e1, R1, hr.mono _ _ _ (fun ds e2 q2 F2 ad2 H2 ws s2 R2 p2 => ?_) q1⟩
  refine ⟨F2, _ :: ds, R2.sub, by rw [List.append_nil]; exact .cons (dp_mono s2 _ _ p1) p2, hC _ _ _ (fun d q3 F3 H3 v sm sb fr p => ?_) q2⟩
  exact q3 F3 ad2 H3 v ((s1.trans s2).trans sm) (R2.called sm sb fr (fun b hb => hb.elim) (fun _ _ _ hb => hb) (fun _ _ _ hb => hb)) p
theorem methD_mono {CC : C0} {xs : List Expr} (hC : Mono0 CC) (ho : DE X o g) (hr : DAr X xs r) : ∀ e (Q Q' : D → DL.Env → Prop), (∀ d e', Q d e' → Q' d e') → dMethD C CC g r e Q → dMethD C CC g r e Q' := fun e Q Q' mm q => ho.mono _ _ _ (fun d e1 q1 => ⟨q1.1, hr.mono _ _ _ (fun ds e2 q2 => hC _ _ _ (fun d' q3 => mm _ _ q3) q2) q1.2⟩) q
theorem calMD {CC : C0} {pl : Sem Bool} (h : MCal X.prog X.w X.K X.mg X.base k C m (spD X.K CC)) (hr : Room k X.A) (hC : Mono0 CC) (c : ClsOk X.K C fs) (ho : DE X o g) (ha : DAr X (e :: es) r) (hpl : (backTo pos (starEach es X.env)).any (·.1) = false := by rfl) (hst : starEach (e :: es) X.env = (false, eval e X.env) :: starEach es X.env := by rfl)
    (ht : eval (.Call (.Attribute o m apos) (e :: es) [] pos) X.env = (do let ov ← eval o X.env; standAt apos.atName; let (f, first) ← holding [ov] (getMethod ov m pl); callWith pos f first (backTo pos (starEach (e :: es) X.env)) (backToKw pos (keywordEach [] X.env))) := by rfl) : DE X (.Call (.Attribute o m apos) (e :: es) [] pos) (dMethD C CC g r) := by
  obtain ⟨f, fd, ps, M, b, F⟩ := h.ex
  exact ⟨fun w => PE.imp (SlX.pe_methSl (ho.run w) c.sc M (F.raw b .nil) hr pass0 (ha.run w) hst hpl ht) (methD_imp hC ho ha w), methD_mono hC ho ha⟩
theorem calMD0 {CC : C0} {pl : Sem Bool} (h : MCal X.prog X.w X.K X.mg X.base k C m (spD X.K CC)) (hr : Room k X.A) (hC : Mono0 CC) (c : ClsOk X.K C fs) (ho : DE X o g)
    (ht : eval (.Call (.Attribute o m apos) [] [] pos) X.env = (do let ov ← eval o X.env; standAt apos.atName; let (f, first) ← holding [ov] (getMethod ov m pl); callWith pos f first (backTo pos (starEach [] X.env)) (backToKw pos (keywordEach [] X.env))) := by rfl) : DE X (.Call (.Attribute o m apos) [] [] pos) (dMethD C CC g dNil) := by
  obtain ⟨f, fd, ps, M, b, F⟩ := h.ex
  refine ⟨fun w => PE.imp (SlX.pe_methSl0 (ho.run w) c.sc M (F.raw b .nil) hr pass0 ht) ?_, methD_mono hC ho (X := X) (xs := []) da_nil⟩
  rintro σ H Q ⟨F1, ad1, e1, R1, q1⟩
  refine ⟨F1, ad1, e1, R1, ho.mono _ _ _ (fun d e2 q2 F2 ad2 H2 v s2 R2 p2 => ?_) q1⟩
  obtain ⟨⟨fs, rfl⟩, q2⟩ := q2
  obtain ⟨a, C', dx, vs, rfl, e2, h1, h2, h3, h4⟩ := dq_obj p2
  obtain rfl : C = C' := Int.ofNat.inj e2
  refine ⟨a, dx, vs.map some, rfl, .inr ⟨R2.sub _ _ h1, R2.sub _ _ h2⟩, ?_⟩
  refine ⟨F2, _ :: [], R2.sub, by rw [List.append_nil]; exact .cons p2 .nil, hC _ _ _ (fun d q3 F3 H3 v sm sb fr p => ?_) q2⟩
  exact q3 F3 ad2 H3 v (s2.trans sm) (R2.called sm sb fr (fun b hb => hb.elim) (fun _ _ _ hb => hb) (fun _ _ _ hb => hb)) p
/-! ### a new instance -/
def newH (H : Hp) (C : Addr) (n : Nat) (x dx : Addr) : Hp := upd (upd H dx (.xd [])) x (SlX.SlO x C dx (List.replicate n none))
theorem newH_of {H : Hp} {C : Addr} {n : Nat} {x dx : Addr} (h : dx ≠ x) : SlX.slH (upd (upd H dx (.own x)) x (.ins C dx [])) x C dx (List.replicate n none) = newH H C n x dx := by
  funext b
  unfold SlX.slH newH
  by_cases h1 : b = x
  · rw [h1, upd_same, upd_same]
  · rw [upd_ne h1, upd_ne h1]
    by_cases h2 : b = dx
    · rw [h2, upd_same, upd_same]
    · rw [upd_ne h2, upd_ne h2, upd_ne h1, upd_ne h2]
theorem slR_nones (n : Nat) (sl : Array (Option Value)) : SlX.SlR (List.replicate n none) sl := fun i v h => by
  rw [List.getElem?_replicate] at h
  split at h
  · cases h
  · cases h
theorem run_newS {pins : List (Addr × Obj)} {σ : L2.St} {H : Hp} {s : Shared} {Q : VK} {us : List Value} {vs : List V} {q : Addr} {fd : FuncData} {ps : List Str} {sp : Sp} {n : Nat} (M : Mk X.K C q) (F : FnOk X.prog X.w X.K X.mg X.base CX0 k q fd ps sp) (hr : Room (k + 1) X.A) (hb : Binds X.K fd ps []) (I : Inv X pins σ H s) (r : Vals vs us)
    (h : ∀ x dx, H x = none → H dx = none → dx ≠ x → sp (.ref x :: vs) (newH H C n x dx) (fun v H2 => v = .non ∧ Q (.ref x) H2) E0) : wpAny (model X.prog X.w) X.A (call (.ref C) us) (EP X pins σ Q) X.xe s := by
  have dn : s.heap.objs.size ≠ s.heap.objs.size + 1 := Nat.ne_of_lt (Nat.lt_succ_self _)
  have J := Inv.made (C := C) I
  have hs : SlX.Slt (upd (upd H s.heap.objs.size (.own (s.heap.objs.size + 1))) (s.heap.objs.size + 1) (.ins C s.heap.objs.size [])) (s.heap.objs.size + 1) C s.heap.objs.size [] := .inl ⟨upd_same, rfl⟩
  obtain ⟨_, sl, mA, e0, _, _, _⟩ := SlX.slt_at J hs
  have J2 := SlX.inv_slot (vs' := List.replicate n none) (sl' := sl) (t' := s.toks) J hs (fun b o _ _ z => z) (fun m z => z) e0 (slR_nones n sl)
  rw [newH_of dn] at J2
  have hq := h (s.heap.objs.size + 1) s.heap.objs.size (I.hok.fresh (Nat.le_succ _)) (I.hok.fresh (Nat.le_refl _)) dn
  have r2 : Vals (V.ref (s.heap.objs.size + 1) :: vs) (Value.ref (s.heap.objs.size + 1) :: us) := .cons rfl r
  have hl : ((Value.ref (s.heap.objs.size + 1) :: us) ++ []).length = ps.length := by
    have e := r2.length
    rw [F.len _ _ _ _ hq] at e
    rw [List.append_nil]
    exact e.symm
  have hbind := hb _ (Value.ref (s.heap.objs.size + 1) :: us) J2.kIn hl
  rw [List.append_nil] at hbind
  refine wpAny_call (make_map (f := q) I.kIn M.makes M.init (beq_iff_eq.mp M.fn) (codeAny_mono (F.run _ X.stack _ _ ⟨Value.ref (s.heap.objs.size + 1) :: us, []⟩ _ _ _ E0 (hr.make C us []) (J2.env0.make C us []) hbind r2 hq) fun rr s' hq' => ?_))
  cases rr with
  | error e => exact False.elim hq'
  | ok fl =>
    cases fl with
    | ret u =>
      obtain ⟨v, H', I3, rv, ev, q3⟩ := J2.after hq'
      subst ev
      exact ⟨rv, ⟨V.ref (s.heap.objs.size + 1), H', I3, rfl, q3⟩⟩
    | next => exact False.elim hq'
    | brk => exact False.elim hq'
    | cont => exact False.elim hq'
def tNewS (C : Addr) (n : Nat) (sp : Sp) (t : TA) : TE := fun σ H Q => t σ H fun vs H1 => ∀ x dx, H1 x = none → H1 dx = none → dx ≠ x → sp (.ref x :: vs) (newH H1 C n x dx) (fun v H2 => v = .non ∧ Q (.ref x) H2) E0
theorem pe_newS {t : TA} {q : Addr} {fd : FuncData} {ps : List Str} {sp : Sp} {n : Nat} (M : Mk X.K C q) (F : FnOk X.prog X.w X.K X.mg X.base CX0 k q fd ps sp) (hr : Room (k + 1) X.A) (hb : Binds X.K fd ps []) (hg : Gl X x) (hm : X.mg x = some (.ref C))
    (ha : PA X (e :: es) t) (hdb : (x == ("__debug__" : Str)) = false) (he : starEach (e :: es) X.env = (false, eval e X.env) :: starEach es X.env) (hpl : (backTo pos (starEach es X.env)).any (·.1) = false) : PE X (.Call (.Name x p) (e :: es) [] pos) (tNewS C n sp t) := by
  refine ⟨fun pins s σ H Q I h => wpAny_Call_Name_kw (ld_glob I hg hm ?_ hdb)⟩
  exact PySem.W.callWith_K (h₀ := X.base) I.ok.mod.kin M.kp (thn (ha.run pos pins s σ H _ I h) fun us s1 ⟨vs, H1, I1, r, z⟩ => ⟨I1.kIn, run_newS M F hr hb I1 r z⟩) he hpl
/-- a class of the text that makes instances -/
structure Makes (P : Program) (w : World) (K : PySem.W.Frag) (mg : Str → Option Value) (base : Heap) (k : Nat) (x : Str) (C : Addr) (sp : Sp) : Prop where
  nm : mg x = some (.ref C)
  ex : ∃ f fd ps, Mk K C f ∧ Binds K fd ps [] ∧ FnOk P w K mg base CX0 k f fd ps sp
theorem MCal.makes {P : Program} {w : World} {K : PySem.W.Frag} {mg : Str → Option Value} {base : Heap} {sp : Sp} (h : MCal P w K mg base k C "__init__" sp) (nm : mg x = some (.ref C)) (mk : PySem.W.makesIn K C = true) (kp : PySem.W.keepIn K (.ref C) = true) : Makes P w K mg base k x C sp := by
  obtain ⟨f, fd, ps, M, b, F⟩ := h.ex
  exact ⟨nm, f, fd, ps, ⟨mk, M.at_, M.fn, kp⟩, b, F⟩
/-- C(..) -/
def dNewS (C : Addr) (n : Nat) (CC : C1) (r : DA) : DF := fun e Q => r e fun ds e1 => CC (.obj C (List.replicate n none)) ds fun d cs' => d = .none ∧ Q cs' e1
theorem calNew {CC : C1} (n : Nat) (h : Makes X.prog X.w X.K X.mg X.base k x C (spB X.K CC)) (hr : Room (k + 1) X.A) (hC : Mono1 CC) (ha : DAr X (e :: es) r) (hg : Gl X x := by rfl) (hdb : (x == ("__debug__" : Str)) = false := by decide)
    (hpl : (backTo pos (starEach es X.env)).any (·.1) = false := by rfl) (he : starEach (e :: es) X.env = (false, eval e X.env) :: starEach es X.env := by rfl) : DFe X (.Call (.Name x p) (e :: es) [] pos) (dNewS C n CC r) := by
  obtain ⟨q, fd, ps, M, b, F⟩ := h.ex
  refine ⟨fun w => PE.imp (pe_newS (n := n) M F hr b hg h.nm (ha.run w) hdb he hpl) ?_, fun e Q Q' mm z => ha.mono _ _ _ (fun ds e1 z1 => hC _ _ _ _ (fun d cs' z2 => ⟨z2.1, mm _ _ z2.2⟩) z1) z⟩
  rintro σ H Q ⟨F0, ad, e0, R, z⟩
  refine ⟨F0, ad, e0, R, ha.mono _ _ _ (fun ds e1 z1 F1 ad1 H1 vs s1 R1 p1 x dx hx hdx hne => ?_) z⟩
  have R2 := R1.grow (o := .xd []) hdx
  have hx2 : (upd H1 dx (.xd [])) x = none := by rw [upd_ne (Ne.symm hne)]; exact hx
  obtain ⟨R3, fr⟩ := R2.layOwn (o := SlX.SlO x C dx (List.replicate n none)) hx2
  have sm1 : Same F1 (upd F1 dx (.xd [])) := same_upd R1.sub hdx
  refine ⟨upd F1 dx (.xd []), x, _, .obj C (List.replicate n none), vs, ds, rfl, R3.sub, upd_same, fr.fF, .obj upd_same hne rfl (optR_nones n), dpAll_mono sm1 _ _ p1, hC _ _ _ _ (fun d cs' z2 F2 H2 v ys sm sb frb hl hf py pv => ?_) z1⟩
  obtain ⟨rfl, z2⟩ := z2
  refine ⟨dp_none pv, ?_⟩
  have R4 := R3.called (no := fun b => b = x) sm sb frb (fun b hb => by subst hb; exact ⟨⟨_, hl⟩, .inl fr.f0⟩) (fun j ds zz => fr.fm j ds zz) (fun j ds zz zz' => fr.fb (R3.bo j ds zz).1 zz'.symm)
  exact z2 F2 ad1 H2 x ys (s1.trans (sm1.trans sm)) R4 hl ⟨hf, fr.f0, fr.fm, fr.fb⟩ py
end
end DL

/-! The D layer, part 16: comprehensions of two clauses; any; enumerate; pop. -/
namespace DL
open PySem PySem.Spec PyProof.Rows L2
section
variable {X : Cx} {pos : Pos} {elt : Expr} {f : DT}
def dComp2 (wi : DI) (gd : DTg) (tt : DB) (wi1 : DI) (gd1 : DTg) (tt1 : DB) (f : DT) (vs vs1 : List Nat) : DF := fun e Q => wi e fun ds e1 => ∃ Pv : Nat → List D → Env → Prop, Pv 0 [] (wipeE e1 vs) ∧
  (∀ i d acc e2, ds[i]? = some d → Pv i acc e2 → gd d e2 fun e3 => tt e3 fun k e4 => if k = true then
    wi1 e4 fun ds1 e5 => ∃ Pw : Nat → List D → Env → Prop, Pw 0 acc (wipeE e5 vs1) ∧
      (∀ j d1 acc1 e6, ds1[j]? = some d1 → Pw j acc1 e6 → gd1 d1 e6 fun e7 => tt1 e7 fun k1 e8 => if k1 = true then f e8 fun y e9 => acc1.length < sizeLine ∧ Pw (j + 1) (acc1 ++ [y]) (wipeE e9 vs1) else Pw (j + 1) acc1 (wipeE e8 vs1)) ∧
      ∀ acc1 e6, Pw ds1.length acc1 e6 → Pv (i + 1) acc1 (wipeE e6 vs)
    else Pv (i + 1) acc (wipeE e4 vs)) ∧
  ∀ acc e2, Pv ds.length acc e2 → Q (.lst acc) e2
/-- what stands while a comprehension's list grows -/
structure Lcg (K : PySem.W.Frag) (w : Wd) (σ : L2.St) (Da : Addr) (F1 : Hp) (P : List D → Env → Prop) (H F : Hp) (ad : Nat → Addr) (e : Env) (acc : List D) (xs : List V) : Prop where
  sm : Same F1 F
  R : Rel K w F ad σ H e
  p : P acc e
  hD : H Da = some (.lst xs)
  fr : Fresh w F ad e Da
  al : DqAll K F xs acc
def LcgX (K : PySem.W.Frag) (w : Wd) (σ : L2.St) (Da : Addr) (F1 : Hp) (P : List D → Env → Prop) (H : Hp) : Prop := ∃ F ad e acc xs, Lcg K w σ Da F1 P H F ad e acc xs
theorem fresh_wiped {w : Wd} {F : Hp} {ad : Nat → Addr} {e : Env} {Da : Addr} {vs : List Nat} {σ : L2.St} (f : Fresh w F ad e Da) : Fresh w F ad (wipeE e vs) Da := ⟨f.fF, f.f0, fun j es z => by
  rcases wipeE_get (σ := σ) z with z | ⟨z, _⟩
  · cases z
  · exact f.fm j es z, f.fb⟩
/-- an item comes -/
theorem Lcg.item {K : PySem.W.Frag} {w : Wd} {σ : L2.St} {Da : Addr} {F1 FY : Hp} {P : List D → Env → Prop} {H F : Hp} {ad : Nat → Addr} {e : Env} {acc : List D} {xs : List V} (G : Lcg K w σ Da F1 P H F ad e acc xs) {J : It} {ds : List D} (sY : Same FY F) (Y : Yields K FY J ds) {i : Nat} {H' : Hp} {x : V} {d : D} (hy : J.yld i H x H') (hd : ds[i]? = some d) :
    ∃ F4, Lcg K w σ Da F1 P H' F4 ad e acc xs ∧ Same F F4 ∧ Dq K F4 x d := by
  obtain ⟨F3, pd, gr'⟩ := Y.yld i H H' x d (sY.trans G.R.sub) hy hd
  rcases gr' with ⟨h1, h2⟩ | ⟨p, o, h1, h2, h3⟩
  · subst h2
    subst h1
    exact ⟨F, G, Same.refl _, dp_mono sY _ _ pd⟩
  · subst h2
    subst h3
    have ne : Da ≠ p := fun z => by
      have := G.hD
      subst z
      rw [h1] at this
      cases this
    have s1 : Same F (upd F p o) := same_upd G.R.sub h1
    exact ⟨upd F p o, ⟨G.sm.trans s1, G.R.grow h1, G.p, by rw [upd_ne ne]; exact G.hD, ⟨by rw [upd_ne ne]; exact G.fr.fF, G.fr.f0, G.fr.fm, G.fr.fb⟩, dpAll_mono s1 _ _ G.al⟩, s1, dp_mono (same_upd2 sY) _ _ pd⟩
theorem tlc_comp2 {K : PySem.W.Frag} {w : Wd} {own : List (Str × Nat)} {vs1 : List Nat} (hv : ∀ i ∈ vs1, i ∈ own.map (·.2)) {wi wi1 : DI} {gr gr1 : TG} {gd gd1 : DTg} {tt tt1 : DB} {f : DT} (hm : ∀ e (Q Q' : List D → Env → Prop), (∀ d e', Q d e' → Q' d e') → wi e Q → wi e Q') (hm1 : ∀ e (Q Q' : List D → Env → Prop), (∀ d e', Q d e' → Q' d e') → wi1 e Q → wi1 e Q')
    (tk : TgOk K (own.map (·.2)) gr gd) (tk1 : TgOk K vs1 gr1 gd1) (mt : ∀ e (Q Q' : Bool → Env → Prop), (∀ d e', Q d e' → Q' d e') → tt e Q → tt e Q') (mt1 : ∀ e (Q Q' : Bool → Env → Prop), (∀ d e', Q d e' → Q' d e') → tt1 e Q → tt1 e Q') (mf : ∀ e (Q Q' : D → Env → Prop), (∀ d e', Q d e' → Q' d e') → f e Q → f e Q') (σ : L2.St) (H : Hp) (Q : V → Hp → Prop)
    (q : FL K w (dComp2 wi gd tt wi1 gd1 tt1 f (own.map (·.2)) vs1) σ H Q) : tLc2 (IL K w wi) gr (fun σ H Q => ∃ w' : Wd, CL K w' tt σ H Q) (fun σ H R => ∃ w' : Wd, IL K w' wi1 σ H R) gr1 (fun σ H Q => ∃ w' : Wd, CL K w' tt1 σ H Q) (fun σ H Q => ∃ w' : Wd, EL K w' f σ H Q) (own.map (·.2)) vs1 σ H Q := by
  obtain ⟨F, ad, e, R, q⟩ := q
  refine ⟨F, ad, e, R, hm _ _ _ (fun ds e1 q1 F1 ad1 H1 J s1 R1 Y => ?_) q⟩
  intro Da hDa
  obtain ⟨Pv, p0, hstep, hend⟩ := q1
  obtain ⟨R0, f0⟩ := R1.layOwn (o := .lst []) hDa
  refine ⟨fun i m H => LcgX K w (wipe σ (own.map (·.2))) Da F1 (Pv i) H ∧ i + m = ds.length,
    ⟨ds.length, ⟨F1, ad1, wipeE e1 (own.map (·.2)), [], [], Same.refl F1, R0.wiped _, p0, upd_same, fresh_wiped (σ := σ) f0, .nil⟩, by omega⟩, ?_⟩
  rintro i m H2 ⟨⟨F2, ad2, e2, acc, xs, G2⟩, hmm⟩
  by_cases hlt : i < ds.length
  · refine .inr ⟨Y.go i H2 (G2.sm.trans G2.R.sub) hlt, LcgX K w (wipe σ (own.map (·.2))) Da F1 (Pv (i + 1)), fun H' g => ⟨m - 1, by omega, g, by omega⟩, fun x H' hy => ?_⟩
    obtain ⟨d, hd⟩ : ∃ d, ds[i]? = some d := ⟨_, List.getElem?_eq_getElem hlt⟩
    obtain ⟨F4, G4, s4, p4⟩ := G2.item G2.sm Y hy hd
    refine tk.up _ _ _ _ _ (fun σ5 H5 z => ?_) (tk.run _ F4 ad2 _ H' e2 x d _ G4.R.rebase p4 (hstep i d acc e2 hd G4.p))
    obtain ⟨rfl, zw, e5, R5, q5⟩ := z
    rw [wipe_wipe] at zw
    refine ⟨zw, _, F4, ad2, e5, R5, mt _ _ _ (fun k e6 q6 F6 ad6 H6 s6 R6 => ?_) q5⟩
    obtain ⟨h7, fr7⟩ := G4.R.keeps R6 G4.hD G4.fr
    have B6 := G4.R.back R6
    have sm6 : Same F1 F6 := G4.sm.trans R6.old
    cases k with
    | false =>
      rw [if_neg Bool.false_ne_true] at q6 ⊢
      have B8 := B6.wiped (own.map (·.2))
      rw [zw] at B8
      exact ⟨F6, ad6, wipeE e6 (own.map (·.2)), acc, xs, sm6, B8, q6, h7, fresh_wiped (σ := σ) fr7, dpAll_mono R6.old _ _ G4.al⟩
    | true =>
      rw [if_pos rfl] at q6 ⊢
      refine ⟨_, F6, ad6, e6, B6.rebase, hm1 _ _ _ (fun ds1 e7 q7 F7 ad7 H7 J1 s7 R7 Y1 => ?_) q6⟩
      obtain ⟨Pw, w0, wstep, wend⟩ := q7
      obtain ⟨h8, fr8⟩ := B6.keeps R7 h7 fr7
      have B7 := B6.back R7
      refine ⟨fun j k H => LcgX K w (wipe σ5 vs1) Da F7 (Pw j) H ∧ j + k = ds1.length, ⟨ds1.length, ⟨F7, ad7, wipeE e7 vs1, acc, xs, Same.refl _, B7.wiped _, w0, h8, fresh_wiped (σ := σ) fr8, dpAll_mono R7.old _ _ (dpAll_mono R6.old _ _ G4.al)⟩, by omega⟩, ?_⟩
      rintro j k H9 ⟨⟨F9, ad9, e9, acc9, xs9, G9⟩, hkk⟩
      by_cases hlt1 : j < ds1.length
      · refine .inr ⟨Y1.go j H9 (G9.sm.trans G9.R.sub) hlt1, LcgX K w (wipe σ5 vs1) Da F7 (Pw (j + 1)), fun H' g => ⟨k - 1, by omega, g, by omega⟩, fun x1 H'' hy1 => ?_⟩
        obtain ⟨d1, hd1⟩ : ∃ d, ds1[j]? = some d := ⟨_, List.getElem?_eq_getElem hlt1⟩
        obtain ⟨Fa, Ga, sa, pa⟩ := G9.item G9.sm Y1 hy1 hd1
        refine tk1.up _ _ _ _ _ (fun σb Hb z => ?_) (tk1.run _ Fa ad9 _ H'' e9 x1 d1 _ Ga.R.rebase pa (wstep j d1 acc9 e9 hd1 Ga.p))
        obtain ⟨rfl, zw1, eb, Rb, qb⟩ := z
        rw [wipe_wipe] at zw1
        refine ⟨zw1, _, Fa, ad9, eb, Rb, mt1 _ _ _ (fun k1 ec qc Fc adc Hc sc Rc => ?_) qb⟩
        cases k1 with
        | false =>
          rw [if_neg Bool.false_ne_true] at qc ⊢
          obtain ⟨hc, frc⟩ := Ga.R.keeps Rc Ga.hD Ga.fr
          have Bc := (Ga.R.back Rc).wiped vs1
          rw [zw1] at Bc
          exact ⟨Fc, adc, wipeE ec vs1, acc9, xs9, Ga.sm.trans Rc.old, Bc, qc, hc, fresh_wiped (σ := σ) frc, dpAll_mono Rc.old _ _ Ga.al⟩
        | true =>
          rw [if_pos rfl] at qc ⊢
          refine ⟨_, Fc, adc, ec, Rc, mf _ _ _ (fun y ed qd Fd add Hd vd sd Rd pd => ?_) qc⟩
          obtain ⟨hd', frd⟩ := Ga.R.keeps Rd Ga.hD Ga.fr
          have Bd := ((Ga.R.back Rd).write (o := .lst (xs9 ++ [vd])) frd).wiped vs1
          rw [zw1] at Bd
          exact ⟨xs9, hd', by rw [dpAll_len Ga.al]; exact qd.1, Fd, add, wipeE ed vs1, acc9 ++ [y], xs9 ++ [vd], Ga.sm.trans Rd.old, Bd, qd.2, upd_same, fresh_wiped (σ := σ) frd, dpAll_app (dpAll_mono Rd.old _ _ Ga.al) (.cons pd .nil)⟩
      · have hE : j = ds1.length := by omega
        subst hE
        refine .inl ⟨Y1.stop _ H9 (G9.sm.trans G9.R.sub) (Nat.le_refl _), ?_⟩
        have B9 := G9.R.wiped (own.map (·.2))
        rw [wipe_sub hv, zw] at B9
        exact ⟨F9, ad9, wipeE e9 (own.map (·.2)), acc9, xs9, (sm6.trans (R7.old)).trans G9.sm, B9, wend acc9 e9 G9.p, G9.hD, fresh_wiped (σ := σ) G9.fr, G9.al⟩
  · have hE : i = ds.length := by omega
    subst hE
    exact .inl ⟨Y.stop _ H2 (G2.sm.trans G2.R.sub) (Nat.le_refl _), hend acc e2 G2.p F2 ad2 H2 Da _ (s1.trans G2.sm) G2.R.unwiped G2.hD G2.fr (.lst G2.al)⟩
theorem df_comp2 {tg iter tg1 iter1 : Expr} {ifs ifs1 : List Expr} {scope : Scope} {own : List (Str × Nat)} {vs1 : List Nat} {wi wi1 : DI} {gr gr1 : TG} {gd gd1 : DTg} {tt tt1 : DB} (hc : X.calm = true) (hN : X.N.Nodup) (hi : DIt X tg iter wi) (ok : BlkOk X.N X.env.scope scope own) (hv : ∀ i ∈ vs1, i ∈ own.map (·.2))
    (hg : ∀ (s : Shared) (H : Hp) (C : Addr) (cl : List (Str × Addr)) (fp : List Addr), PG (X.blk s H scope (compEnvC scope cl C X.env) fp) tg gr) (tk : TgOk X.K (own.map (·.2)) gr gd) (ht : ∀ (s : Shared) (H : Hp) (C : Addr) (cl : List (Str × Addr)) (fp : List Addr), DTs (X.blk s H scope (compEnvC scope cl C X.env) fp) ifs tt)
    (hi1 : ∀ (s : Shared) (H : Hp) (C : Addr) (cl : List (Str × Addr)) (fp : List Addr), DIt (X.blk s H scope (compEnvC scope cl C X.env) fp) tg1 iter1 wi1)
    (hg1 : ∀ (s : Shared) (H : Hp) (C : Addr) (cl : List (Str × Addr)) (fp : List Addr), PG (X.blk s H scope (compEnvC scope cl C X.env) fp) tg1 gr1) (tk1 : TgOk X.K vs1 gr1 gd1) (ht1 : ∀ (s : Shared) (H : Hp) (C : Addr) (cl : List (Str × Addr)) (fp : List Addr), DTs (X.blk s H scope (compEnvC scope cl C X.env) fp) ifs1 tt1)
    (he : ∀ (s : Shared) (H : Hp) (C : Addr) (cl : List (Str × Addr)) (fp : List Addr), DE (X.blk s H scope (compEnvC scope cl C X.env) fp) elt f)
    (hs : ∀ z, foldedSetIterable iter X.env z = pure z := by intro _; rfl) (hs1 : ∀ env z, foldedSetIterable iter1 env z = pure z := by intro _ _; rfl) :
    DFe X (.ListComp elt [⟨tg, iter, ifs, 0⟩, ⟨tg1, iter1, ifs1, 0⟩] scope pos) (dComp2 wi gd tt wi1 gd1 tt1 f (own.map (·.2)) vs1) := by
  refine ⟨fun w => ⟨fun pins s σ H Q I q => ?_⟩, fun e Q Q' m q => ?_⟩
  · have mt := (ht s H 0 [] []).mono
    have mt1 := (ht1 s H 0 [] []).mono
    have mf := (he s H 0 [] []).mono
    have mi1 := (hi1 s H 0 [] []).mono
    exact (pe_lc2 hc hN (hi.run w) ok hv hg (fun s H C cl fp => ⟨fun p s' σ H' Q I' ⟨w', q⟩ => ((ht s H C cl fp).run w').run p s' σ H' Q I' q⟩) (fun s H C cl fp => ⟨fun p s' σ H' R I' ⟨w', q⟩ => ((hi1 s H C cl fp).run w').run p s' σ H' R I' q⟩) hg1 (fun s H C cl fp => ⟨fun p s' σ H' Q I' ⟨w', q⟩ => ((ht1 s H C cl fp).run w').run p s' σ H' Q I' q⟩) (fun s H C cl fp => ⟨fun p s' σ H' Q I' ⟨w', q⟩ => ((he s H C cl fp).run w').run p s' σ H' Q I' q⟩) hs hs1).run pins s σ H Q I (tlc_comp2 hv hi.mono mi1 tk tk1 mt mt1 mf σ H Q q)
  · exact hi.mono _ _ _ (fun ds e1 ⟨Pv, p0, h1, h2⟩ => ⟨Pv, p0, h1, fun acc e2 pi => m _ _ (h2 acc e2 pi)⟩) q
end
end DL

/-! The D layer, part 17: enumerate over a tuple or a list. -/
namespace PySem
open Sem (wp)
theorem meets_enum_any {v : Value} {o : Obj} {H : Heap → Prop} (B : Begins v o H) : Meets (Builtin.«enumerate.__new__» ⟨[.type "enumerate", v], []⟩) (fun _ R s => H s.heap ∧
      R (.ok (.ret (.ref (s.heap.push o).objs.size))) { s with heap := (s.heap.push o).push { cls := .type "enumerate", data := .fields #[.none, .bool false, .ref s.heap.objs.size, rawInt 0, .none, .none] } }) := .of_wp fun prog w A R s h => by
  obtain ⟨hp, g, d, tk, os⟩ := s
  obtain ⟨h1, h⟩ := h
  have hsub := sub_enumerate
  have q1 : ∀ {A' : Around} {E : Value → Shared → Prop} {Q : Value → Shared → Prop}, Q (.ref hp.objs.size) ⟨hp.push o, g, d, tk, os⟩ → wpAny (model prog w) A' (pyIter v) Q E ⟨hp, g, d, tk, os⟩ := fun q => B.iter prog w _ _ ⟨hp, g, d, tk, os⟩ _ h1 q
  wp_walk using q1
  refine wpAny_stack_any fun st => wpAny_pure ?_
  split
  · rename_i c _ _ _ _ _
    cases (c == Value.type "enumerate")
    all_goals (wp_walk using q1; exact ⟨_, rfl, h⟩)
  · wp_walk using q1
    exact ⟨_, rfl, h⟩
theorem call_enum_any {prog : Program} {w : World} {A : Around} {E : Value → Shared → Prop} {s : Shared} {v : Value} {o : Obj} {H : Heap → Prop} {Q : Value → Shared → Prop} (B : Begins v o H) (h1 : H s.heap)
    (h : ∀ h', IsEnum h' (s.heap.objs.size + 1) s.heap.objs.size 0 .none → h'.get? s.heap.objs.size = some o → (∀ b o, s.heap.get? b = some o → h'.get? b = some o) → Q (.ref (s.heap.objs.size + 1)) { s with heap := h' }) : wpAny (model prog w) A (call (.type "enumerate") [v]) Q E s := by
  refine callType_new F.called_enumerate (by decide) (F.typeCall_enumerate_1 _) (F.newCall_enumerate_1 _) (fun obj => F.args_object_init_2 obj _) F.entry_enumerate_new (meets_enum_any B) ⟨h1, ?_⟩
  have hz : (s.heap.push o).objs.size = s.heap.objs.size + 1 := Heap.size_push ..
  have he := Heap.get?_push_size (s.heap.push o) (o := { cls := .type "enumerate", data := .fields #[.none, .bool false, .ref s.heap.objs.size, rawInt 0, .none, .none] }) rfl
  show _ ∧ _
  rw [hz] at he ⊢
  exact ⟨⟨_, he, rfl⟩, h _ he (Heap.get?_push_of_some _ (Heap.get?_push_size _ B.free)) fun b o x => Heap.get?_push_of_some _ (Heap.get?_push_of_some _ x)⟩
end PySem
namespace DL
open PySem PySem.Spec PyProof.Rows L2
/-- the tuple at a, each item in a new pair with its place -/
def IteT (K : PySem.W.Frag) (a : Addr) : It :=
  ⟨fun i H => ∃ (xs : List V) (x : V), SqT K H a xs ∧ xs[i]? = some x, fun i H v H' => ∃ T x, v = .ref T ∧ H T = none ∧ H' = upd H T (.tup [.int (i : Nat), x]) ∧ ∀ xs, SqT K H a xs → xs[i]? = some x, fun i H => ∃ xs : List V, SqT K H a xs ∧ xs.length ≤ i⟩
theorem turn_enumT {P : Program} {w : World} {K : PySem.W.Frag} {elts : List Expr} {kk : Nat} {tpos : Pos} (a e it : Addr) (h1 : a ≠ e) (h2 : a ≠ it) (h3 : e ≠ it) :
    Turn P w K (.Tuple elts kk tpos) (IteT K a) [e, it] e (fun i h => (∃ old, IsEnum h e it ((i : Nat) : Int) old) ∧ h.IsTupleIter it a i) where
  mem := List.mem_cons_self
  obj := fun i h st b hb => by
    obtain ⟨⟨old, he⟩, o, ho, hc, hd⟩ := st
    rcases List.mem_cons.mp hb with z | z
    · subst z; exact ⟨_, he, fun v q => nomatch q⟩
    · rw [List.mem_singleton] at z
      subst z; exact ⟨o, ho, fun v q => by rw [hd] at q; cases q⟩
  keep := fun i h h' st k => by
    obtain ⟨⟨old, he⟩, hi⟩ := st
    exact ⟨⟨old, k e (by simp) _ he⟩, hi.at fun o q => k it (by simp) o q⟩
  item := by
    intro X hP hw hK hc i pins s σ H E I hf st hg
    subst hP hw hK
    obtain ⟨⟨old, he⟩, hit⟩ := st
    obtain ⟨xs, x, hq, hx⟩ := hg
    obtain ⟨its, rv, p, hz⟩ := I.tuple hq
    obtain ⟨u, hu, ru⟩ := rv.get hx
    have hlt : i < its.toArray.size := by
      have := (List.getElem?_eq_some_iff.mp hu).1
      simpa using this
    have hel : e < s.heap.objs.size := Heap.lt_size he
    have hil : it < s.heap.objs.size := by obtain ⟨o, q, _⟩ := hit; exact Heap.lt_size q
    have pT : s.heap.IsTuple a its.toArray := p
    refine wpAny_pyNext_enum_itemD (Draws.tuple (A := X.A.in1) (I.ok.hd hc) it a h2 its.toArray) he ⟨hit, pT⟩ hlt h3 (by simp [h3, Ne.symm h1]) fun y h' tk hy ho hst hT hsz hk => ?_
    have ey : y = u := by
      have e1 : its.toArray[i]? = some u := by simpa using hu
      exact Option.some.inj (hy.symm.trans e1)
    subst ey
    refine ⟨_, rfl, wpAny_letOwnedTupleGo_enum (s := { s with heap := h', toks := tk + 1 }) ho fun h'' he' sb => ?_⟩
    have hT2 : h''.get? s.heap.objs.size = some { cls := .type "tuple", data := .seq #[.int i tk, y] } := (sb.2 _ (Nat.ne_of_gt hel)).trans hT
    have new : ObjOk X.prog X.w (upd H s.heap.objs.size (.tup [.int (i : Nat), x])) h'' s.heap.objs.size (.tup [.int (i : Nat), x]) := by
      refine ⟨?_, [.int i tk, y], .cons ⟨_, rfl⟩ (.cons ru .nil), ⟨_, hT2, rfl, _, rfl⟩⟩
      exact (by decide : 2 ≤ sizeLine)
    have I1 : Inv X pins σ (upd H s.heap.objs.size (.tup [.int (i : Nat), x])) { s with heap := h'', toks := tk + 1 } :=
      I.turnedNew (ch := [e, it]) (fun b ob hb q => (sb.2 b (fun z => hb (by simp [z]))).trans (hk b ob (fun z => hb (by simp [z])) (fun z => hb (by simp [z])) q)) hf (Nat.le_refl _) new
    have e1 : ((i + 1 : Nat) : Int) = (i : Int) + 1 := by omega
    refine ⟨.ref s.heap.objs.size, _, I1, rfl, ⟨_, x, rfl, I.hok.fresh (Nat.le_refl _), rfl, fun ys hy => by rw [I.tuple_inj hy hq]; exact hx⟩, ⟨⟨y, by rw [e1]; exact he'⟩, hst.1.at fun o q => (sb.2 it (Ne.symm h3)).trans q⟩, fun b hb => ?_⟩
    have hb' : b < s.heap.objs.size := by
      rcases List.mem_cons.mp hb with z | z
      · rw [z]; exact hel
      · rw [List.mem_singleton] at z; rw [z]; exact hil
    rw [upd_ne (Nat.ne_of_lt hb')]
    exact (hf b hb).1
  done := by
    intro X hP hw hK hc i pins s σ H E I hf st hg
    subst hP hw hK
    obtain ⟨⟨old, he⟩, hit⟩ := st
    obtain ⟨xs, hq, hx⟩ := hg
    obtain ⟨its, rv, p, hz⟩ := I.tuple hq
    obtain ⟨f0, f1, f2, f3, f4, f5⟩ := hf it (by simp)
    have hl := rv.length
    have pT : s.heap.IsTuple a its.toArray := p
    have D : Draws X.prog X.w X.A.in1 it [it, a] i (fun _ _ => True) (fun m h => m = i ∧ h.IsTupleIter it a i ∧ h.IsTuple a its.toArray) := {
      live := fun _ _ st => by obtain ⟨_, ⟨o, ho, _⟩, _⟩ := st; exact ⟨o, ho⟩
      frame := fun _ _ _ st hk => ⟨st.1, st.2.1.at fun o e => hk it (by simp) o e, st.2.2.at fun o e => hk a (by simp) o e⟩
      item := fun m s Q E hm st hQ => absurd st.1 (Nat.ne_of_lt hm)
      done := fun s Q E st hE => wpAny_nextOf_tuple_end (A := X.A.in1) (I.ok.hd hc) st.2.1 st.2.2 (by simp; omega) hE }
    exact wpAny_pyNext_enum_endD D he ⟨rfl, hit, pT⟩ fun h' eb => ⟨rfl, I.turned (t' := s.toks) (fun b o hb q => eb b o hb q) f0 f1 f3 f4 f5⟩
  self := fun A i s Q E st h => by
    obtain ⟨⟨_, he⟩, _⟩ := st
    exact wpAny_pyIter_enum he h
section
variable {X : Cx} {e : Expr} {p pos tpos : Pos} {elts : List Expr} {kk : Nat} {f : DT}
/-- the places of a list's (or a tuple's) items beside them -/
def numD : Nat → List D → List D
  | _, [] => []
  | i, d :: ds => .tuple [.int (i : Nat), d] :: numD (i + 1) ds
theorem numD_len : ∀ (ds : List D) (i : Nat), (numD i ds).length = ds.length
  | [], _ => rfl
  | _ :: ds, i => congrArg (· + 1) (numD_len ds (i + 1))
theorem numD_get : ∀ {ds : List D} {k i : Nat} {d : D}, (numD k ds)[i]? = some d → ∃ x, ds[i]? = some x ∧ d = .tuple [.int ((k + i : Nat) : Int), x]
  | [], _, _, _, h => by simp [numD] at h
  | x :: ds, k, 0, d, h => ⟨x, rfl, (Option.some.inj h).symm⟩
  | x :: ds, k, i + 1, d, h => by
    obtain ⟨y, h1, h2⟩ := numD_get (ds := ds) (k := k + 1) (i := i) h
    exact ⟨y, h1, by rw [h2, show k + 1 + i = k + (i + 1) by omega]⟩
def dItE (f : DT) : DI := fun e Q => f e fun d e' => match d with
  | .list ds => Q (numD 0 ds) e'
  | .tuple ds => Q (numD 0 ds) e'
  | _ => False
def iEnumA (K : PySem.W.Frag) (ta : TA) : TI := fun σ H R => ta σ H fun vs H1 => ∃ a xs, vs = [.ref a] ∧ ((SqL K H1 a xs ∧ R (Ite K a) H1) ∨ (SqT K H1 a xs ∧ R (IteT K a) H1))
theorem pi_enumA {ta : TA} (hg : Gl X "enumerate") (hm : X.mg "enumerate" = none) (ha : PA X [e] ta) (hs : starEach [e] X.env = [(false, eval e X.env)] := by rfl) : PI X (.Tuple elts kk tpos) (.Call (.Name "enumerate" p) [e] [] pos) (iEnumA X.K ta) := by
  refine ⟨fun pins s σ H R I h => ?_⟩
  refine Call_ (ld_blt I hg hm boot_enumerate (PyProof.Rows.callWith_type1 (thn (ha.run pos pins s σ H _ I h) fun us s1 ⟨vs, H1, I1, r1, q1⟩ => ?_) hs rfl))
  obtain ⟨a, xs, ex, q1⟩ := q1
  subst ex
  cases r1 with
  | cons r rr =>
    cases rr
    cases r
    have fin : ∀ {h' : Heap}, (∀ b o, s1.heap.get? b = some o → h'.get? b = some o) → ∀ b ∈ [s1.heap.objs.size + 1, s1.heap.objs.size], FpOk X pins H1 b := fun {h'} hk b hb => by
      have hle : s1.heap.objs.size ≤ b := by
        rcases List.mem_cons.mp hb with z | z
        · rw [z]; exact Nat.le_add_right _ _
        · rw [List.mem_singleton] at z; rw [z]; exact Nat.le_refl _
      exact I1.fpOk hle (I1.hok.fresh hle)
    rcases q1 with ⟨hq, q⟩ | ⟨hq, q⟩
    · obtain ⟨its, rv, p', hz⟩ := I1.list hq
      refine call_enumerate_list p'.isList fun h' he hit hsz hk => wpAny_pyIter_enum he ?_
      have I2 : Inv X pins σ H1 { s1 with heap := h' } := I1.kept (t' := s1.toks) hk
      exact ⟨s1.heap.objs.size + 1, [s1.heap.objs.size + 1, s1.heap.objs.size], _, _, H1, rfl, I2, turn_enum a (s1.heap.objs.size + 1) s1.heap.objs.size, ⟨⟨.none, he⟩, hit, Nat.succ_ne_self _⟩, fin hk, q⟩
    · obtain ⟨its, rv, p', hz⟩ := I1.tuple hq
      have pT : s1.heap.IsTuple a its.toArray := p'
      have al : a < s1.heap.objs.size := by obtain ⟨o, q, _⟩ := pT; exact Heap.lt_size q
      refine call_enum_any (begins_tuple a its.toArray) pT fun h' he hit hk => wpAny_pyIter_enum he ?_
      have I2 : Inv X pins σ H1 { s1 with heap := h' } := I1.kept (t' := s1.toks) hk
      exact ⟨s1.heap.objs.size + 1, [s1.heap.objs.size + 1, s1.heap.objs.size], _, _, H1, rfl, I2, turn_enumT a (s1.heap.objs.size + 1) s1.heap.objs.size (Nat.ne_of_lt (Nat.lt_succ_of_lt al)) (Nat.ne_of_lt al) (Nat.succ_ne_self _), ⟨⟨.none, he⟩, ⟨_, hit, rfl, rfl⟩⟩, fin hk, q⟩
theorem di_enum (ha : DE X e f) (hg : Gl X "enumerate") (hm : X.mg "enumerate" = none) (hs : starEach [e] X.env = [(false, eval e X.env)] := by rfl) (hs2 : starEach (e :: []) X.env = (false, eval e X.env) :: starEach [] X.env := by rfl) : DIt X (.Tuple elts kk tpos) (.Call (.Name "enumerate" p) [e] [] pos) (dItE f) := by
  refine ⟨fun w => PI.imp (pi_enumA hg hm (pa_cons (ha.run w) pa_nil hs2) hs) ?_, fun e Q Q' m q => ha.mono _ _ _ (fun d e' q' => ?_) q⟩
  · rintro σ H R ⟨F, ad, e, Rl, q⟩
    refine ⟨F, ad, e, Rl, ha.mono _ _ _ (fun d e' q' F' ad' H' v s' R' p => ?_) q⟩
    have yd : ∀ (a : Addr) (us : List V) (ds : List D), DqAll X.K F' us ds → ∀ (i : Nat) (H2 H3 : Hp) (d : D), Same F' H2 → (numD 0 ds)[i]? = some d → (∃ (x : V), us[i]? = some x ∧ H3 = upd H2 a (.tup [.int (i : Nat), x])) → H2 a = none → ∃ F3, Dq X.K F3 (.ref a) d ∧ ((F3 = F' ∧ H3 = H2) ∨ ∃ p o, H2 p = none ∧ F3 = upd F' p o ∧ H3 = upd H2 p o) := by
      rintro a us ds h2 i H2 H3 d sm hd ⟨x, hx, rfl⟩ hT
      obtain ⟨y, e1, rfl⟩ := numD_get hd
      obtain ⟨x2, z1, z2⟩ := dpAll_got h2 e1
      rw [hx] at z1
      cases z1
      have s2 := same_upd (o := .tup [.int (i : Nat), x]) sm hT
      refine ⟨upd F' a (.tup [.int (i : Nat), x]), .tup (SqT.of upd_same) (.cons ?_ (.cons (dp_mono s2 _ _ z2) .nil)), .inr ⟨a, _, hT, rfl, rfl⟩⟩
      rw [Nat.zero_add]
      exact .int _
    split at q'
    · rename_i ds
      obtain ⟨a, us, rfl, h1, h2⟩ := dp_list p
      have hl := dpAll_len h2
      refine ⟨a, us, rfl, .inl ⟨R'.sub.seq h1, q' F' ad' H' _ s' R' ⟨fun i H2 sm l => ?_, fun i H2 sm l => ⟨us, sm.seq h1, by rw [numD_len] at l; omega⟩, fun i H2 H3 x d sm y hd => ?_⟩⟩⟩
      · rw [numD_len] at l
        exact ⟨us, _, sm.seq h1, List.getElem?_eq_getElem (by omega)⟩
      · obtain ⟨T, x1, rfl, hT, rfl, g1⟩ := y
        exact yd T us ds h2 i H2 _ d sm hd ⟨x1, g1 us (sm.seq h1), rfl⟩ hT
    · rename_i ds
      obtain ⟨a, us, rfl, h1, h2⟩ := dp_tup p
      have hl := dpAll_len h2
      refine ⟨a, us, rfl, .inr ⟨sqT_mono R'.sub h1, q' F' ad' H' _ s' R' ⟨fun i H2 sm l => ?_, fun i H2 sm l => ⟨us, sqT_mono sm h1, by rw [numD_len] at l; omega⟩, fun i H2 H3 x d sm y hd => ?_⟩⟩⟩
      · rw [numD_len] at l
        exact ⟨us, _, sqT_mono sm h1, List.getElem?_eq_getElem (by omega)⟩
      · obtain ⟨T, x1, rfl, hT, rfl, g1⟩ := y
        exact yd T us ds h2 i H2 _ d sm hd ⟨x1, g1 us (sqT_mono sm h1), rfl⟩ hT
    · exact q'.elim
  · split at q'
    · exact m _ _ q'
    · exact m _ _ q'
    · exact q'.elim
end
end DL

/-! The D layer, part 18: any, list(..) of one's own, pop, two things of one's own. -/
namespace DL
open PySem PySem.Spec PyProof.Rows L2
def gAny : G1 := fun ds P => match ds with
  | [.list es] => match boolsOf es with
    | some ns => P (.bool (ns.any id))
    | none => False
  | _ => False
theorem oa_any {K : PySem.W.Frag} : OpA K (rAny K) gAny := ⟨fun F H xs ds Q sm p q => by
  unfold gAny at q
  split at q
  · split at q
    · rename_i ns z
      cases p with
      | cons p pn =>
        cases pn
        obtain ⟨a, ys, rfl, h1, h2⟩ := dp_list p
        rw [boolsOf_map z] at h2
        rw [dpAll_of_bools ns h2] at h1
        exact ⟨a, ns, rfl, sm.seq h1, q _ F H Grow.refl (.bl _)⟩
    · exact q.elim
  · exact q.elim, fun ds P P' m q => by
  unfold gAny at q ⊢
  split at q
  · split at q
    · exact m _ q
    · exact q.elim
  · exact q.elim⟩
@[simp ↓] theorem s_any {es : List D} {P : D → Prop} : gAny [.list es] P = match boolsOf es with
  | some ns => P (.bool (ns.any id))
  | none => False := rfl
section
variable {X : Cx} {a b e : Expr} {f g h k : DT} {st : Stmt} {pos p apos cpos : Pos}
/-- list(x), a list of one's own -/
def dFOf (f : DT) : DF := fun e Q => f e fun d e' => match d with
  | .list ds => Q (.lst ds) e'
  | .tuple ds => Q (.lst ds) e'
  | _ => False
theorem df_of (ha : DE X e f) (hl : Gl X "list") (hm : X.mg "list" = none) (hv : bootBuiltins "list" = some (.type "list") := by decide +kernel)
    (he : starEach (e :: []) X.env = (false, eval e X.env) :: starEach [] X.env := by rfl) (hpl : (backTo pos (starEach [] X.env)).any (·.1) = false := by rfl) : DFe X (.Call (.Name "list" p) (e :: []) [] pos) (dFOf f) := by
  refine ⟨fun w => PE.imp (pe_callTy call_list_of hl hm hv (pa_cons (ha.run w) pa_nil he) (by decide) (by decide) he hpl) ?_, fun e Q Q' m q => ha.mono _ _ _ (fun d e' q' => ?_) q⟩
  · rintro σ H Q ⟨F, ad, e, R, q⟩
    refine ⟨F, ad, e, R, ha.mono _ _ _ (fun d e' q' F' ad' H' v s' R' p => ?_) q⟩
    have fin : ∀ (us : List V) (ds : List D), DqAll X.K F' us ds → (∀ F2 ad2 H2 a xs, Same F F2 → Rel X.K w F2 ad2 σ H2 e' → H2 a = some xs → Fresh w F2 ad2 e' a → OwR X.K F2 a xs (.lst ds) → Q (.ref a) H2) → ∀ l, H' l = none → Q (.ref l) (upd H' l (.lst us)) := fun us ds h2 q l hl => by
      obtain ⟨R2, fr⟩ := R'.layOwn (o := .lst us) hl
      exact q F' ad' _ l _ s' R2 upd_same fr (.lst h2)
    split at q'
    · rename_i ds
      obtain ⟨a, us, rfl, h1, h2⟩ := dp_list p
      exact ⟨a, us, rfl, .inl (R'.sub.seq h1), fin us ds h2 q'⟩
    · rename_i ds
      obtain ⟨a, us, rfl, h1, h2⟩ := dp_tup p
      exact ⟨a, us, rfl, .inr (sqT_mono R'.sub h1), fin us ds h2 q'⟩
    · exact q'.elim
  · split at q'
    · exact m _ _ q'
    · exact m _ _ q'
    · exact q'.elim
@[simp ↓] theorem s_fof {e : Env} {Q : Ow → Env → Prop} : dFOf f e Q = f e fun d e' => match d with
  | .list ds => Q (.lst ds) e'
  | .tuple ds => Q (.lst ds) e'
  | _ => False := rfl
theorem dpAll_erase {K : PySem.W.Frag} {F : Hp} : ∀ {xs : List V} {ds : List D} (n : Nat), DqAll K F xs ds → DqAll K F (xs.eraseIdx n) (ds.eraseIdx n)
  | _, _, _, .nil => .nil
  | _, _, 0, .cons _ t => t
  | _, _, n + 1, .cons h t => .cons h (dpAll_erase n t)
/-- x.pop(k), x a list of one's own -/
def dPopAt (i : Nat) (k : DT) : DT := fun e Q => (∃ ds, slLst e[i]? = some ds) ∧ k e fun dk e1 => match dk, slLst e1[i]? with
  | .int n, some ds => ds.length ≤ sizeLine ∧ match ixN ds.length n with
    | some j => match ds[j]? with
      | some d => ∀ s, slPut e1[i]? (.lst (ds.eraseIdx j)) = some s → Q d (e1.set i s)
      | none => False
    | none => False
  | _, _ => False
theorem de_popAt {o : Expr} (i : Nat) (ha : DE X a k) (hp : ∀ t, PA X [a] t → PE X (.Call (.Attribute o "pop" apos) [a] [] cpos) (tBM X.K "list" rPopAt (tVar i) t)) (hs : starEach [a] X.env = (false, eval a X.env) :: starEach [] X.env := by rfl) : DE X (.Call (.Attribute o "pop" apos) [a] [] cpos) (dPopAt i k) := by
  refine ⟨fun w => PE.imp (hp _ (pa_cons (ha.run w) pa_nil hs)) ?_, fun e Q Q' m q => ⟨q.1, ha.mono _ _ _ (fun d e1 q1 => ?_) q.2⟩⟩
  · rintro σ H Q ⟨F, ad, e, R, ⟨ds0, q0⟩, q⟩
    obtain ⟨p, xs0, h0, h1, _⟩ := R.ownedL q0
    refine ⟨_, h0, .inl ⟨rfl, _, SqL.of h1⟩, F, ad, e, R, ha.mono _ _ _ (fun d e1 q1 F1 ad1 H1 v s1 R1 p1 => ?_) q⟩
    split at q1
    · rename_i n ds z
      obtain ⟨p2, xs, h2, h3, h4, _, up⟩ := R1.ownedL z
      rw [h0] at h2
      cases h2
      have hl := dpAll_len h4
      obtain rfl := dp_int p1
      obtain ⟨sz, q1⟩ := q1
      have sl : sizeLine = 2 ^ 24 := rfl
      split at q1
      · rename_i j hj
        obtain ⟨j1, j2, j3, j4⟩ := ixN_seq hj
        split at q1
        · rename_i d hd
          obtain ⟨x, g1, g2⟩ := dpAll_got h4 hd
          obtain ⟨s, hs, R2⟩ := up (xs.eraseIdx j) (ds.eraseIdx j) (dpAll_erase j h4)
          exact ⟨p, xs, n, j, x, rfl, rfl, h3, by omega, by omega, by rw [hl]; exact j1, g1, q1 s hs F1 ad1 _ x s1 R2 g2⟩
        · exact q1.elim
      · exact q1.elim
    · exact q1.elim
  · split at q1
    · refine ⟨q1.1, ?_⟩
      have q1 := q1.2
      split at q1
      · split at q1
        · exact fun s hs => m _ _ (q1 s hs)
        · exact q1.elim
      · exact q1.elim
    · exact q1.elim
@[simp ↓] theorem s_popAt {e : Env} {Q : D → Env → Prop} {i : Nat} : dPopAt i k e Q = ((ge i e fun z => ∃ ds, slLst z = some ds) ∧ k e fun dk e1 => ge i e1 fun z => match dk, slLst z with
  | .int n, some ds => ds.length ≤ sizeLine ∧ match ixN ds.length n with
    | some j => match ds[j]? with
      | some d => ∀ s, slPut z (.lst (ds.eraseIdx j)) = some s → DL.st i s e1 fun e2 => Q d e2
      | none => False
    | none => False
  | _, _ => False) := rfl
/-- x, y = .., .., both one's own -/
def dParFF (i j : Nat) (f g : DF) : DSt := fun D e => f e fun o e1 => g e1 fun o' e2 => D.nx ((e2.set i (.mu o)).set j (.mu o'))
theorem pe_anyF {h : DF} (hb : DFe X b h) : PE X b (fun σ H Q => ∃ w' : Wd, FL X.K w' h σ H Q) := ⟨fun p s σ H Q I ⟨w', q⟩ => (hb.run w').run p s σ H Q I q⟩
theorem ds_parFF {i j : Nat} {f g : DF} (hij : i ≠ j) (ha : DFe X a f) (hb : DFe X b g) (hp : ∀ ta, PA X [a, b] ta → PS X st (tPar i j ta)) (h1 : starEach (a :: [b]) X.env = (false, eval a X.env) :: starEach [b] X.env := by rfl) (h2 : starEach (b :: []) X.env = (false, eval b X.env) :: starEach [] X.env := by rfl) : DS X st (dParFF i j f g) := by
  refine ⟨fun w => PS.imp (hp _ (pa_cons (ha.run w) (pa_cons (pe_anyF hb) pa_nil h2) h1)) ?_, fun A B e l q => ha.mono _ _ _ (fun o e1 q1 => hb.mono _ _ _ (fun d e2 q2 => l.nx _ q2) q1) q⟩
  rintro D σ H ⟨F, ad, e, R, q⟩
  refine ⟨F, ad, e, R, ha.mono _ _ _ (fun o e1 q1 F1 ad1 H1 l ho s1 R1 z fr p => ?_) q⟩
  refine ⟨here w F1 ad1 H1 e1, F1, ad1, e1, R1.rebase, hb.mono _ _ _ (fun d e2 q2 F2 ad2 H2 l2 ho2 s2 R2 zz fr2 p2 => ?_) q1⟩
  obtain ⟨z2, fr3⟩ := R1.keeps R2 z fr
  have B := R1.back R2
  have C := B.setMu (i := i) z2 fr3 (ow_mono R2.old p)
  have ne : l2 ≠ l := fun q => by
    have := fr2.f0
    have h0 : H1 l2 = none := this
    rw [q, z] at h0
    cases h0
  have fr4 : Fresh w F2 (fun j => if j = i then l else ad2 j) (e2.set i (.mu o)) l2 := by
    have f0' : w.H0 l2 = none := by
      cases hz : w.H0 l2 with
      | none => rfl
      | some u =>
        obtain ⟨u', h'⟩ := R1.dom _ _ hz
        have h0 : H1 l2 = none := fr2.f0
        rw [h0] at h'
        cases h'
    refine ⟨fr2.fF, f0', fun k ds q => ?_, fun hb' q => fr2.fb hb' q⟩
    by_cases hk : k = i
    · rw [if_pos hk]; exact Ne.symm ne
    · rw [if_neg hk]
      rw [List.getElem?_set, if_neg (Ne.symm hk)] at q
      exact fr2.fm k ds q
  have E := C.setMu (i := j) zz fr4 p2
  exact ⟨_, _, rfl, q2 F2 _ _ H2 E⟩
@[simp ↓] theorem s_parFF {i j : Nat} {f g : DF} {D0 : DEnds} {e : Env} : dParFF i j f g D0 e = f e fun o e1 => g e1 fun o' e2 => DL.st i (.mu o) e2 fun e3 => DL.st j (.mu o') e3 D0.nx := rfl
end
end DL

/-! The D layer, part 19: the readings of instances as equations. -/
namespace DL
open PySem PySem.Spec PyProof.Rows L2
/-- the k-th field -/
def gf (k : Nat) (fs : List (Option D)) (K : Option (Option D) → Prop) : Prop := K fs[k]?
/-- the k-th field anew -/
def sf (k : Nat) (d : D) (fs : List (Option D)) (K : List (Option D) → Prop) : Prop := k < fs.length ∧ K (fs.set k (some d))
@[simp ↓] theorem gf_0 {x : Option D} {r : List (Option D)} {K : Option (Option D) → Prop} : gf 0 (x :: r) K = K (some x) := rfl
@[simp ↓] theorem gf_S {k : Nat} {x : Option D} {r : List (Option D)} {K : Option (Option D) → Prop} : gf (k + 1) (x :: r) K = gf k r K := rfl
@[simp ↓] theorem sf_0 {d : D} {x : Option D} {r : List (Option D)} {K : List (Option D) → Prop} : sf 0 d (x :: r) K = K (some d :: r) := by
  unfold sf
  simp
@[simp ↓] theorem sf_S {k : Nat} {d : D} {x : Option D} {r : List (Option D)} {K : List (Option D) → Prop} : sf (k + 1) d (x :: r) K = sf k d r fun fs => K (x :: fs) := by
  unfold sf
  simp
section
variable {e : Env} {Q : D → Env → Prop} {T : Env → Prop} {SO : Ow → Env → Prop} {f g : DT} {r : DA} {C : Addr} {i k : Nat} {d : D}
@[simp ↓] theorem s_fldO : dFldO C i k e Q = ge i e fun z => match slOwn z with
  | some (.obj C' fs) => C' = C ∧ gf k fs fun y => match y with
    | some (some d) => Q d e
    | _ => False
  | _ => False := rfl
@[simp ↓] theorem s_gFld : dgFld C i k d e T = ge i e fun z => match slOwn z with
  | some (.obj C' fs) => C' = C ∧ sf k d fs fun fs' => ∀ s, slPut z (.obj C fs') = some s → st i s e T
  | _ => False := rfl
/-- the k-th of known data -/
def ge' (k : Nat) (ds : List D) (K : Option D → Prop) : Prop := K ds[k]?
@[simp ↓] theorem ge'_0 {x : D} {r : List D} {K : Option D → Prop} : ge' 0 (x :: r) K = K (some x) := rfl
@[simp ↓] theorem ge'_S {k : Nat} {x : D} {r : List D} {K : Option D → Prop} : ge' (k + 1) (x :: r) K = ge' k r K := rfl
@[simp ↓] theorem s_fldD : dFldD C k g e Q = g e fun d e1 => match d with
  | .dict [(.bool true, .tuple (.int c :: ds))] => c = (C : Nat) ∧ ge' k ds fun z => match z with
    | some d => Q d e1
    | none => False
  | _ => False := rfl
@[simp ↓] theorem s_methO {CC : C1} : dMethO C i CC r e Q = ((ge i e fun z => ∃ fs, slOwn z = some (.obj C fs)) ∧ r e fun ds e1 => ge i e1 fun z => match slOwn z with
  | some cs => CC cs ds fun d cs' => ∀ s, slPut z cs' = some s → st i s e1 fun e2 => Q d e2
  | none => False) := rfl
@[simp ↓] theorem s_methD {CC : C0} : dMethD C CC g r e Q = g e fun d e1 => (∃ ds, d = .dict [(.bool true, .tuple (.int (C : Nat) :: ds))]) ∧ r e1 fun ds e2 => CC (d :: ds) fun d' => Q d' e2 := rfl
@[simp ↓] theorem s_newS {CC : C1} {n : Nat} : dNewS C n CC r e SO = r e fun ds e1 => CC (.obj C (List.replicate n none)) ds fun d cs' => d = .none ∧ SO cs' e1 := rfl
@[simp] theorem owD_o4 {a b c d : D} : owD (.obj C [some a, some b, some c, some d]) = some (.dict [(.bool true, .tuple [.int (C : Nat), a, b, c, d])]) := rfl
@[simp ↓] theorem s_itE {S : List D → Env → Prop} : dItE f e S = f e fun d e' => match d with
  | .list ds => S (numD 0 ds) e'
  | .tuple ds => S (numD 0 ds) e'
  | _ => False := rfl
end
end DL

/-! The D layer, part 20: so many times a list, a tuple. -/
namespace DL
open PySem PySem.Spec PyProof.Rows L2
theorem dpAll_flat {K : PySem.W.Frag} {F : Hp} {xs : List V} {ds : List D} (h : DqAll K F xs ds) (k : Nat) : DqAll K F (List.replicate k xs).flatten (List.replicate k ds).flatten := dpAll_rep h k
def gRepT : G2 := fun d1 d2 P => match d1, d2 with
  | .tuple ds, .int k => ds ≠ [] ∧ 2 ≤ k ∧ k ≤ 1000 ∧ ds.length ≤ 1000 ∧ P (.tuple (List.replicate k.toNat ds).flatten)
  | _, _ => False
theorem od_repT {K : PySem.W.Frag} : OpD K (rRepT K) gRepT := ⟨fun F H x y d1 d2 Q sm p1 p2 q => by
  unfold gRepT at q
  split at q
  · rename_i ds k
    obtain ⟨a, xs, rfl, h1, h2⟩ := dp_tup p1
    obtain ⟨q1, q2, q3, q4, q5⟩ := q
    have hl := dpAll_len h2
    refine ⟨a, k, xs, rfl, dp_int p2, sqT_mono sm h1, ?_, q2, q3, by omega, fun p hp => ?_⟩
    · intro e
      subst e
      cases h2
      exact q1 rfl
    · have s2 := same_upd (o := .tup (List.replicate k.toNat xs).flatten) sm hp
      exact q5 _ _ _ (Grow.one hp) (.tup (SqT.of upd_same) (dpAll_mono s2 _ _ (dpAll_flat h2 _)))
  · exact q.elim, fun d1 d2 P P' m q => by
  unfold gRepT at q ⊢
  split at q
  · exact ⟨q.1, q.2.1, q.2.2.1, q.2.2.2.1, m _ q.2.2.2.2⟩
  · exact q.elim⟩
@[simp ↓] theorem s_repT {ds : List D} {k : Int} {P : D → Prop} : gRepT (.tuple ds) (.int k) P = (ds ≠ [] ∧ 2 ≤ k ∧ k ≤ 1000 ∧ ds.length ≤ 1000 ∧ P (.tuple (List.replicate k.toNat ds).flatten)) := rfl
section
variable {X : Cx} {a b : Expr} {f : DF} {g : DT} {pos : Pos}
/-- [..] * k -/
def dRep (f : DF) (g : DT) : DT := fun e Q => f e fun o e1 => g e1 fun d e2 => match o, d with
  | .lst ds, .int k => -(2 ^ 63) ≤ k ∧ k < 2 ^ 63 ∧ ds.length * k.toNat ≤ sizeLine ∧ Q (.list (List.replicate k.toNat ds).flatten) e2
  | _, _ => False
theorem de_rep (ha : DFe X a f) (hb : DE X b g) : DE X (.BinOp a .Mult b pos) (dRep f g) := by
  refine ⟨fun w => PE.imp (pe_op op_rep (ha.run w) (pe_any hb)) ?_, fun e Q Q' m q => ha.mono _ _ _ (fun o e1 q1 => hb.mono _ _ _ (fun d e2 q2 => ?_) q1) q⟩
  · rintro σ H Q ⟨F, ad, e, R, q⟩
    refine ⟨F, ad, e, R, ha.mono _ _ _ (fun o e1 q1 F1 ad1 H1 l ho s1 R1 z fr p => ?_) q⟩
    refine ⟨here w F1 ad1 H1 e1, F1, ad1, e1, R1.rebase, hb.mono _ _ _ (fun d e2 q2 F2 ad2 H2 v s2 R2 p2 => ?_) q1⟩
    obtain ⟨z2, fr2⟩ := R1.keeps R2 z fr
    have B := R1.back R2
    split at q2
    · rename_i ds k
      obtain ⟨q3, q4, q5, q6⟩ := q2
      obtain ⟨xs, rfl, h5⟩ := owr_lst p
      have hl := dpAll_len h5
      refine ⟨l, k, xs, rfl, dp_int p2, z2, q3, q4, by rw [hl]; exact q5, fun pp hp => ?_⟩
      have s3 := same_upd (o := .lst (List.replicate k.toNat xs).flatten) B.sub hp
      exact q6 _ ad2 _ _ (s1.trans (R2.old.trans s3)) (B.grow hp) (.lst (.inl upd_same) (dpAll_mono s3 _ _ (dpAll_mono R2.old _ _ (dpAll_flat h5 _))))
    · exact q2.elim
  · split at q2
    · exact ⟨q2.1, q2.2.1, q2.2.2.1, m _ _ q2.2.2.2⟩
    · exact q2.elim
@[simp ↓] theorem s_rep {e : Env} {Q : D → Env → Prop} : dRep f g e Q = f e fun o e1 => g e1 fun d e2 => match o, d with
  | .lst ds, .int k => -(2 ^ 63) ≤ k ∧ k < 2 ^ 63 ∧ ds.length * k.toNat ≤ sizeLine ∧ Q (.list (List.replicate k.toNat ds).flatten) e2
  | _, _ => False := rfl
end
end DL
/-! ### // by a divisor of either sign -/
namespace DL
open PySem PySem.Spec PyProof.Rows L2
def CDivG (_ j : Int) : Prop := j ≠ 0 ∧ j.natAbs.log2 < 9000
theorem op_fdivG {X : Cx} : OpR X (binaryOp .FloorDiv) (rI CDivG fun i j => .int (i.fdiv j)) := opI fun _ _ _ _ _ _ _ hc q => floordiv_int hc.1 q (.inl (PyProof.noPylong_of_log2 hc.2))
abbrev gDivG : G2 := gI CDivG fun i j => .int (i.fdiv j)
theorem divG {i j : Int} {b : Nat} (h : j ≠ 0) (hb : j.natAbs < 2 ^ b) (h0 : 0 < b) (h9 : b ≤ 9000) : CDivG i j := ⟨h, Nat.lt_of_lt_of_le (PySem.Flt.log2_lt_of h0 hb) h9⟩
end DL

/-! The D layer, part 21: loops over pairs and places. -/
namespace DL
open PySem PySem.Spec PyProof.Rows L2
section
variable {t : DB} {f : DT} {SO : Ow → DL.Env → Prop} {b : DSt} {D0 : DEnds} {e e1 : DL.Env} {gg : DTg} {vs : List Nat} {xs ys ds : List D}
theorem comp_zipT {rr : DA} (hr : ∀ S : List D → DL.Env → Prop, S [.tuple xs, .tuple ys] e1 → rr e S) (Pv : Nat → List D → DL.Env → Prop) (h0 : Pv 0 [] (wipeE e1 vs))
    (hs : ∀ (i : Nat) x y acc e2, xs[i]? = some x → ys[i]? = some y → Pv i acc e2 → gg (.tuple [x, y]) e2 fun e3 => t e3 fun k e4 => if k = true then f e4 fun y e5 => acc.length < sizeLine ∧ Pv (i + 1) (acc ++ [y]) (wipeE e5 vs) else Pv (i + 1) acc (wipeE e4 vs))
    (hd : ∀ acc e2, Pv (min xs.length ys.length) acc e2 → SO (.lst acc) e2) : dComp (dItZ rr) gg t f vs e SO := by
  refine hr _ ⟨Pv, h0, fun i d acc e2 q p => ?_, fun acc e2 p => hd acc e2 (by rw [zipD_len] at p; exact p)⟩
  obtain ⟨x, y, h1, h2, rfl⟩ := zipD_get q
  exact hs i x y acc e2 h1 h2 p
theorem for_enumT {ff : DT} (hr : ∀ Q : D → DL.Env → Prop, Q (.tuple ds) e1 → ff e Q) (Pv : Nat → DL.Env → Prop) (h0 : Pv 0 e1)
    (hs : ∀ (i : Nat) x e2, ds[i]? = some x → Pv i e2 → gg (.tuple [.int (i : Nat), x]) e2 fun e3 => b { D0 with nx := Pv (i + 1), ct := Pv (i + 1), bk := D0.nx } e3) (hd : ∀ e2, Pv ds.length e2 → D0.nx e2) : dFor (dItE ff) gg b D0 e := by
  refine hr _ ⟨Pv, h0, fun i d e2 q p => ?_, fun e2 p => hd e2 (by rw [numD_len] at p; exact p)⟩
  obtain ⟨x, h1, rfl⟩ := numD_get q
  rw [Nat.zero_add]
  exact hs i x e2 h1 p
end
end DL

/-! The D layer, part 22: a list of one's own, compared and kept. -/
namespace DL
open PySem PySem.Spec PyProof.Rows L2
section
variable {X : Cx} {a b : Expr} {h : DT} {pos : Pos}
def dNeO (i : Nat) (h : DT) : DB := fun e Q => (∃ ds, slLst e[i]? = some ds) ∧ h e fun d e1 => match slLst e1[i]? with
  | some ds => SeqAt.shaped (.list ds) = true ∧ SeqAt.shaped d = true ∧ Q (!PyData.eqv (.list ds) d) e1
  | none => False
theorem dt_neO (i : Nat) (hu : X.A.units + 64 < cLine) (ha : PE X a (tVar i)) (hb : DE X b h) (hm : behindInMarks .NotEq b = false) : DTe X (.Compare a [.NotEq] [b] pos) (dNeO i h) := by
  refine ⟨fun w => PT.imp (pt_cmpR (op_neD hu) ha (hb.run w) hm) ?_, fun e Q Q' m q => ⟨q.1, hb.mono _ _ _ (fun d e1 q1 => ?_) q.2⟩⟩
  · rintro σ H Q ⟨F, ad, e, R, ⟨ds0, q0⟩, q⟩
    obtain ⟨p, xs0, h0, _, _⟩ := R.ownedL q0
    refine ⟨_, h0, F, ad, e, R, hb.mono _ _ _ (fun d e1 q1 F1 ad1 H1 v1 s1 R1 p1 => ?_) q⟩
    split at q1
    · rename_i ds z
      obtain ⟨p2, xs, h2, h3, h4, _, _⟩ := R1.ownedL z
      rw [h0] at h2
      cases h2
      obtain ⟨k1, k2, k3⟩ := q1
      exact ⟨_, _, dq_dp _ _ (SeqAt.canLay_of_shaped k1) (.lst (Rd.of h3) (dpAll_mono R1.sub _ _ h4)), dq_dp _ _ (SeqAt.canLay_of_shaped k2) (dp_mono R1.sub _ _ p1), k1, k2, _, rfl, k3 F1 ad1 H1 s1 R1⟩
    · exact q1.elim
  · split at q1
    · exact ⟨q1.1, q1.2.1, m _ _ q1.2.2⟩
    · exact q1.elim
@[simp ↓] theorem s_neO {e : Env} {Q : Bool → Env → Prop} {i : Nat} : dNeO i h e Q = ((ge i e fun z => ∃ ds, slLst z = some ds) ∧ h e fun d e1 => ge i e1 fun z => match slLst z with
  | some ds => SeqAt.shaped (.list ds) = true ∧ SeqAt.shaped d = true ∧ Q (!PyData.eqv (.list ds) d) e1
  | none => False) := rfl
end
end DL

/-! The D layer, part 23: the ends for a class. -/
namespace DL
open PySem PySem.Spec PyProof.Rows L2
section
variable {K : PySem.W.Frag} {C : Addr}
theorem slot1_mk {f : Str} {p : Addr} {i : Nat} (h1 : PySem.W.findIn K (.ref C) f = some (some (.ref p))) (h2 : PySem.W.specialIn K (.ref p) "__get__" = some (some (.builtin "member_descriptor.__get__"))) (h3 : PySem.W.takesIn K (.ref p) = some true) (h4 : PySem.W.typeIn K (.ref p) = some (.type "member_descriptor")) (h5 : PySem.W.slotIn K p C = some i) (h6 : i < 1000) : ∃ p, SlX.Slot1 K C f p i := ⟨p, h1, h2, h3, h4, h5, h6⟩
theorem clsOk4 {f0 f1 f2 f3 : Str} (pg : PySem.W.plainGet K C Str.empty = true) (ic : PySem.W.isClsIn K C = true) (po : PySem.W.plainOver K C = true) (sa : PySem.W.findIn K (.ref C) "__setattr__" = some (some (.builtin "object.__setattr__")))
    (s0 : ∃ p, SlX.Slot1 K C f0 p 0) (s1 : ∃ p, SlX.Slot1 K C f1 p 1) (s2 : ∃ p, SlX.Slot1 K C f2 p 2) (s3 : ∃ p, SlX.Slot1 K C f3 p 3) : ClsOk K C [f0, f1, f2, f3] :=
  ⟨⟨pg, ic, po, sa⟩, fun i f h => match i, h with
    | 0, h => by cases h; exact s0
    | 1, h => by cases h; exact s1
    | 2, h => by cases h; exact s2
    | 3, h => by cases h; exact s3
    | i + 4, h => by simp at h⟩
theorem methAt_mk {m qual : Str} {st : Stmt} {ps : List Str} {f : Addr} {oc : Value} {od an : Option Addr} {osl : Array (Option Value)} {kV doc pm cdv ct : Value}
    (b : ∀ (kV doc pm : Value) (an : Option Addr) (cdv ct : Value) (us : List Value), us.length = ps.length → bindArgs (PySem.W.fnOf m qual (defArgs st) (defBody st) (defScope st) .none kV doc pm an cdv ct) ⟨us, []⟩ = pure (ps.zip us))
    (a : PySem.W.findIn K (.ref C) m = some (some (.ref f))) (fn : PySem.W.isFn K (.ref f) = true) (l : K.lookup f = some ⟨oc, od, .func (PySem.W.fnOf m qual (defArgs st) (defBody st) (defScope st) .none kV doc pm an cdv ct), osl⟩) (c : PySem.W.codeIn K cdv qual = true) (kp : PySem.W.keepIn K (.ref f) = true) : MethAt K C m qual st ps :=
  ⟨⟨_, _, fun_mk l c kp, ⟨a, fn, kp⟩, (fun_mk l c kp).binds b⟩⟩
end
end DL

namespace Nk66
/-! lattices of whole points -/
structure Lat (L : Int → Int → Prop) : Prop where
  z : L 0 0
  add : ∀ {x y x' y'}, L x y → L x' y' → L (x + x') (y + y')
  mul : ∀ (k : Int) {x y}, L x y → L (k * x) (k * y)
theorem Lat.sub {L : Int → Int → Prop} (h : Lat L) {x y x' y' : Int} (p : L x y) (q : L x' y') : L (x - x') (y - y') := by
  have := h.add p (h.mul (-1) q)
  rw [show x - x' = x + -1 * x' by omega, show y - y' = y + -1 * y' by omega]
  exact this
def InH (a b d x y : Int) : Prop := ∃ i j : Int, x = i * a ∧ y = i * b + j * d
theorem lat_inH (a b d : Int) : Lat (InH a b d) where
  z := ⟨0, 0, by simp, by simp⟩
  add := fun ⟨i, j, e1, e2⟩ ⟨i', j', e3, e4⟩ => ⟨i + i', j + j', by rw [e1, e3]; grind, by rw [e2, e4]; grind⟩
  mul := fun k _ _ ⟨i, j, e1, e2⟩ => ⟨k * i, k * j, by rw [e1]; grind, by rw [e2]; grind⟩
def Span : List (Int × Int) → Int → Int → Prop
  | [], x, y => x = 0 ∧ y = 0
  | p :: r, x, y => ∃ i : Int, Span r (x - i * p.1) (y - i * p.2)
theorem lat_span : ∀ S : List (Int × Int), Lat (Span S)
  | [] => ⟨⟨rfl, rfl⟩, fun ⟨a, b⟩ ⟨c, d⟩ => ⟨by omega, by omega⟩, fun k _ _ ⟨a, b⟩ => ⟨by rw [a]; simp, by rw [b]; simp⟩⟩
  | p :: r => by
    have ih := lat_span r
    refine ⟨⟨0, by simpa using ih.z⟩, ?_, ?_⟩
    · rintro x y x' y' ⟨i, h⟩ ⟨i', h'⟩
      refine ⟨i + i', ?_⟩
      have := ih.add h h'
      rw [show x + x' - (i + i') * p.1 = x - i * p.1 + (x' - i' * p.1) by rw [Int.add_mul]; omega, show y + y' - (i + i') * p.2 = y - i * p.2 + (y' - i' * p.2) by rw [Int.add_mul]; omega]
      exact this
    · rintro k x y ⟨i, h⟩
      refine ⟨k * i, ?_⟩
      have := ih.mul k h
      rw [Int.mul_sub, Int.mul_sub, ← Int.mul_assoc, ← Int.mul_assoc] at this
      exact this
theorem span_cons {p : Int × Int} {r : List (Int × Int)} {x y : Int} (h : Span r x y) : Span (p :: r) x y := ⟨0, by simpa using h⟩
theorem span_mem : ∀ {S : List (Int × Int)} {p : Int × Int}, p ∈ S → Span S p.1 p.2
  | q :: r, p, h => by
    rcases List.mem_cons.mp h with h | h
    · subst h
      exact ⟨1, by rw [Int.one_mul, Int.one_mul, Int.sub_self, Int.sub_self]; exact (lat_span r).z⟩
    · exact span_cons (span_mem h)
theorem span_le {L : Int → Int → Prop} (hL : Lat L) : ∀ {S : List (Int × Int)}, (∀ p ∈ S, L p.1 p.2) → ∀ {x y}, Span S x y → L x y
  | [], _, x, y, ⟨a, b⟩ => by rw [a, b]; exact hL.z
  | p :: r, h, x, y, ⟨i, hs⟩ => by
    have h1 := span_le hL (fun q hq => h q (List.mem_cons_of_mem _ hq)) hs
    have h2 := hL.mul i (h p (List.mem_cons_self ..))
    have := hL.add h1 h2
    rw [show x - i * p.1 + i * p.1 = x by omega, show y - i * p.2 + i * p.2 = y by omega] at this
    exact this
theorem span_app {S T : List (Int × Int)} {L : Int → Int → Prop} (hL : Lat L) (h1 : ∀ x y, Span S x y → L x y) (h2 : ∀ x y, Span T x y → L x y) : ∀ {x y}, Span (S ++ T) x y → L x y := fun h => span_le hL (fun p hp => by
  rcases List.mem_append.mp hp with h | h
  · exact h1 _ _ (span_mem h)
  · exact h2 _ _ (span_mem h)) h
theorem span_left {S T : List (Int × Int)} {x y : Int} (h : Span S x y) : Span (S ++ T) x y := span_le (lat_span _) (fun p hp => span_mem (List.mem_append_left _ hp)) h
theorem span_right {S T : List (Int × Int)} {x y : Int} (h : Span T x y) : Span (S ++ T) x y := span_le (lat_span _) (fun p hp => span_mem (List.mem_append_right _ hp)) h
/-- the flat pair of a lattice -/
structure Hn (L : Int → Int → Prop) (a b d : Int) : Prop where
  a0 : 0 < a
  d0 : 0 < d
  b0 : 0 ≤ b
  bd : b < d
  eq : ∀ x y, L x y ↔ InH a b d x y
theorem Hn.congr {L M : Int → Int → Prop} {a b d : Int} (h : Hn L a b d) (e : ∀ x y, L x y ↔ M x y) : Hn M a b d := ⟨h.a0, h.d0, h.b0, h.bd, fun x y => (e x y).symm.trans (h.eq x y)⟩
theorem inH_1 (a b d : Int) : InH a b d a b := ⟨1, 0, by omega, by omega⟩
theorem inH_2 (a b d : Int) : InH a b d 0 d := ⟨0, 1, by omega, by omega⟩
theorem pos_eq {a a' i j : Int} (h : 0 < a) (h' : 0 < a') (e : a = i * a') (e' : a' = j * a) : a = a' := by
  have d1 : a' ∣ a := ⟨i, by rw [e]; exact Int.mul_comm _ _⟩
  have d2 : a ∣ a' := ⟨j, by rw [e']; exact Int.mul_comm _ _⟩
  have := Int.le_of_dvd h d1
  have := Int.le_of_dvd h' d2
  omega
theorem mul_zero' {i a : Int} (ha : 0 < a) (h : 0 = i * a) : i = 0 := by
  rcases Int.mul_eq_zero.mp h.symm with z | z <;> omega
theorem InH.zero {a b d y : Int} (ha : 0 < a) (h : InH a b d 0 y) : ∃ j, y = j * d := by
  obtain ⟨i, j, e1, e2⟩ := h
  have := mul_zero' ha e1
  subst this
  exact ⟨j, by omega⟩
theorem InH.one {a b d y : Int} (ha : 0 < a) (h : InH a b d a y) : ∃ j, y = b + j * d := by
  obtain ⟨i, j, e1, e2⟩ := h
  have h1 : (i - 1) * a = 0 := by rw [Int.sub_mul]; omega
  have : i = 1 := by rcases Int.mul_eq_zero.mp h1 with z | z <;> omega
  subst this
  exact ⟨j, by omega⟩
theorem res_eq {b b' d j : Int} (h1 : 0 ≤ b) (h2 : b < d) (h3 : 0 ≤ b') (h4 : b' < d) (e : b = b' + j * d) : b = b' := by
  rcases Int.lt_trichotomy j 0 with z | z | z
  · have : j * d ≤ -1 * d := Int.mul_le_mul_of_nonneg_right (by omega) (by omega)
    omega
  · subst z; omega
  · have : 1 * d ≤ j * d := Int.mul_le_mul_of_nonneg_right (by omega) (by omega)
    omega
theorem Hn.uniq {L : Int → Int → Prop} {a b d a' b' d' : Int} (h : Hn L a b d) (h' : Hn L a' b' d') : a = a' ∧ b = b' ∧ d = d' := by
  have t : ∀ x y, InH a b d x y ↔ InH a' b' d' x y := fun x y => (h.eq x y).symm.trans (h'.eq x y)
  obtain ⟨i, _, e1, _⟩ := (t _ _).mp (inH_1 a b d)
  obtain ⟨i', _, e2, _⟩ := (t _ _).mpr (inH_1 a' b' d')
  have ea := pos_eq h.a0 h'.a0 e1 e2
  obtain ⟨j, e3⟩ := ((t _ _).mp (inH_2 a b d)).zero h'.a0
  obtain ⟨j', e4⟩ := ((t _ _).mpr (inH_2 a' b' d')).zero h.a0
  have ed := pos_eq h.d0 h'.d0 e3 e4
  subst ea ed
  obtain ⟨k, e5⟩ := ((t _ _).mp (inH_1 a b d)).one h.a0
  exact ⟨rfl, res_eq h.b0 h.bd h'.b0 h'.bd e5, rfl⟩
/-- in it, by remainders -/
theorem inH_iff {a b d x y : Int} (ha : 0 < a) (hd : 0 < d) : InH a b d x y ↔ x % a = 0 ∧ (y - x / a * b) % d = 0 := by
  constructor
  · rintro ⟨i, j, rfl, rfl⟩
    have e : i * a / a = i := Int.mul_ediv_cancel _ (by omega)
    refine ⟨Int.mul_emod_left _ _, ?_⟩
    rw [e, show i * b + j * d - i * b = j * d by omega]
    exact Int.mul_emod_left _ _
  · rintro ⟨h1, h2⟩
    have e1 := Int.mul_ediv_add_emod x a
    have e2 := Int.mul_ediv_add_emod (y - x / a * b) d
    refine ⟨x / a, (y - x / a * b) / d, ?_, ?_⟩
    · rw [Int.mul_comm]; omega
    · rw [Int.mul_comm ((y - x / a * b) / d)]; omega
/-! the three -/
def Tri (sx sy lx ly ty x y : Int) : Prop := ∃ i j k : Int, x = i * sx + j * lx ∧ y = i * sy + j * ly + k * ty
theorem tri_sub {sx sy lx ly ty m x y : Int} : Tri (sx - m * lx) (sy - m * ly) lx ly ty x y ↔ Tri sx sy lx ly ty x y := by
  constructor
  · rintro ⟨i, j, k, e1, e2⟩
    exact ⟨i, j - i * m, k, by rw [e1]; grind, by rw [e2]; grind⟩
  · rintro ⟨i, j, k, e1, e2⟩
    exact ⟨i, j + i * m, k, by rw [e1]; grind, by rw [e2]; grind⟩
theorem tri_swap {sx sy lx ly ty x y : Int} : Tri lx ly sx sy ty x y ↔ Tri sx sy lx ly ty x y := by
  constructor
  · rintro ⟨i, j, k, e1, e2⟩; exact ⟨j, i, k, by omega, by omega⟩
  · rintro ⟨i, j, k, e1, e2⟩; exact ⟨j, i, k, by omega, by omega⟩
theorem tri_sub2 {sy lx ly ty m x y : Int} : Tri 0 (sy - m * ty) lx ly ty x y ↔ Tri 0 sy lx ly ty x y := by
  constructor
  · rintro ⟨i, j, k, e1, e2⟩; exact ⟨i, j, k - i * m, by omega, by rw [e2]; grind⟩
  · rintro ⟨i, j, k, e1, e2⟩; exact ⟨i, j, k + i * m, by omega, by rw [e2]; grind⟩
theorem tri_swap2 {sy lx ly ty x y : Int} : Tri 0 ty lx ly sy x y ↔ Tri 0 sy lx ly ty x y := by
  constructor
  · rintro ⟨i, j, k, e1, e2⟩; exact ⟨k, j, i, by omega, by omega⟩
  · rintro ⟨i, j, k, e1, e2⟩; exact ⟨k, j, i, by omega, by omega⟩
theorem tri_end {lx ly ty x y : Int} : Tri 0 0 lx ly ty x y ↔ InH lx ly ty x y := by
  constructor
  · rintro ⟨i, j, k, e1, e2⟩; exact ⟨j, k, by omega, by omega⟩
  · rintro ⟨j, k, e1, e2⟩; exact ⟨0, j, k, by omega, by omega⟩
/-! sizes through Euclid's steps -/
def Cr (K : Nat) (p q cs cl : Int) : Prop := (0 ≤ p * q ∧ cs.natAbs * q.natAbs + cl.natAbs * p.natAbs ≤ K) ∨ cs.natAbs * q.natAbs + cl.natAbs * (p.natAbs + 2 * q.natAbs) ≤ K
theorem div_facts {p q : Int} (hq : 0 < q) : 0 ≤ p - p / q * q ∧ p - p / q * q < q ∧ (0 ≤ p → 0 ≤ p / q * q) := by
  have e := Int.mul_ediv_add_emod p q
  have h1 := Int.emod_nonneg p (show q ≠ 0 by omega)
  have h2 := Int.emod_lt_of_pos p hq
  have e2 : q * (p / q) = p / q * q := Int.mul_comm _ _
  exact ⟨by omega, by omega, fun hp => Int.mul_nonneg (Int.ediv_nonneg hp (by omega)) (by omega)⟩
theorem fdiv_facts {p q : Int} (hq : q ≠ 0) : (p - p.fdiv q * q).natAbs < q.natAbs ∧ 0 ≤ q * (p - p.fdiv q * q) ∧ (0 ≤ p * q → (p.fdiv q * q).natAbs + (p - p.fdiv q * q).natAbs = p.natAbs) := by
  rcases Int.lt_or_gt_of_ne hq with h | h
  · have e : p.fdiv q = (-p) / (-q) := by
      rw [← Int.neg_fdiv_neg p q, Int.fdiv_eq_ediv_of_nonneg _ (by omega)]
    obtain ⟨f1, f2, f3⟩ := div_facts (p := -p) (q := -q) (by omega)
    rw [e]
    have e2 : -p / -q * -q = -(-p / -q * q) := Int.mul_neg _ _
    rw [e2] at f1 f2 f3
    generalize -p / -q * q = m at *
    refine ⟨by omega, ?_, fun hp => ?_⟩
    · have := Int.mul_nonneg (show 0 ≤ -q by omega) (show 0 ≤ -(p - m) by omega)
      rw [Int.neg_mul_neg] at this
      exact this
    · have hp' : p ≤ 0 := by
        rcases Int.lt_or_le 0 p with z | z
        · have := Int.mul_neg_of_pos_of_neg z h
          omega
        · exact z
      have := f3 (by omega)
      omega
  · have e : p.fdiv q = p / q := Int.fdiv_eq_ediv_of_nonneg _ (by omega)
    obtain ⟨f1, f2, f3⟩ := div_facts (p := p) h
    rw [e]
    generalize p / q * q = m at *
    refine ⟨by omega, Int.mul_nonneg (by omega) (by omega), fun hp => ?_⟩
    have hp' : 0 ≤ p := by
      rcases Int.lt_or_le p 0 with z | z
      · have := Int.mul_neg_of_neg_of_pos z h
        omega
      · exact z
    have := f3 hp'
    omega
/-- a step of division -/
theorem Cr.step {K : Nat} {p q cs cl : Int} (h : Cr K p q cs cl) (hq : q ≠ 0) : Cr K q (p - p.fdiv q * q) cl (cs - p.fdiv q * cl) ∧ (cs - p.fdiv q * cl).natAbs ≤ K := by
  obtain ⟨f1, f2, f3⟩ := fdiv_facts (p := p) hq
  generalize hm : p.fdiv q = m at *
  generalize hr : p - m * q = r at *
  have t : (cs - m * cl).natAbs * q.natAbs ≤ cs.natAbs * q.natAbs + cl.natAbs * (m * q).natAbs := by
    have h1 : (cs - m * cl).natAbs ≤ cs.natAbs + (m * cl).natAbs := by omega
    have h2 := Nat.mul_le_mul_right q.natAbs h1
    rw [Nat.add_mul] at h2
    have h3 : (m * cl).natAbs * q.natAbs = cl.natAbs * (m * q).natAbs := by
      rw [Int.natAbs_mul, Int.natAbs_mul, Nat.mul_comm m.natAbs, Nat.mul_assoc]
    omega
  have key : cl.natAbs * r.natAbs + (cs - m * cl).natAbs * q.natAbs ≤ K := by
    rcases h with ⟨s, h⟩ | h
    · have e := f3 s
      have : cl.natAbs * p.natAbs = cl.natAbs * (m * q).natAbs + cl.natAbs * r.natAbs := by rw [← Nat.mul_add, e]
      omega
    · have e1 : (m * q).natAbs ≤ p.natAbs + r.natAbs := by omega
      have e2 : (m * q).natAbs + r.natAbs ≤ p.natAbs + 2 * q.natAbs := by omega
      have := Nat.mul_le_mul_left cl.natAbs e2
      rw [Nat.mul_add] at this
      omega
  refine ⟨.inl ⟨f2, key⟩, ?_⟩
  have : (cs - m * cl).natAbs * 1 ≤ (cs - m * cl).natAbs * q.natAbs := Nat.mul_le_mul_left _ (by omega)
  omega
theorem Cr.lo {K : Nat} {p q cs cl : Int} (h : Cr K p q cs cl) (hp : p ≠ 0) : cl.natAbs ≤ K := by
  have : cl.natAbs * 1 ≤ cl.natAbs * p.natAbs := Nat.mul_le_mul_left _ (by omega)
  rcases h with ⟨_, h⟩ | h
  · omega
  · rw [Nat.mul_add] at h
    omega
theorem Cr.start {k b : Nat} {p q cs cl : Int} (hp : p.natAbs < 2 ^ k) (hq : q.natAbs < 2 ^ k) (h1 : cs.natAbs < 2 ^ b) (h2 : cl.natAbs < 2 ^ b) : Cr (2 ^ (b + k + 2)) p q cs cl := by
  refine .inr ?_
  have e1 : cs.natAbs * q.natAbs ≤ 2 ^ b * 2 ^ k := Nat.mul_le_mul (by omega) (by omega)
  have e2 : cl.natAbs * (p.natAbs + 2 * q.natAbs) ≤ 2 ^ b * (3 * 2 ^ k) := Nat.mul_le_mul (by omega) (by omega)
  have e3 : 2 ^ (b + k + 2) = 4 * (2 ^ b * 2 ^ k) := by rw [Nat.pow_add, Nat.pow_add]; omega
  have e4 : 2 ^ b * (3 * 2 ^ k) = 3 * (2 ^ b * 2 ^ k) := Nat.mul_left_comm _ _ _
  omega
end Nk66

namespace Nk66
open PySem PySem.Spec PyProof.Rows L2 DL
variable [Clss]
abbrev FAR : Int := 1000000000000000000000000000000000000000000000000000000000000
abbrev N_is_whole : List Str := ["value"]
/-- is_whole -/
def t_is_whole : DSt :=
  (dRet (dAndV (dIsi "int" (dVar 0)) (dNotV (dIsi "bool" (dVar 0)))))

abbrev C_is_whole : C0 := CLD 1 N_is_whole t_is_whole

theorem u_is_whole {x0 : D} {P : D → Prop} (h : t_is_whole { nx := fun _ => P .none, rt := fun d _ => P d } [.im x0]) : C_is_whole [x0] P := CLD.of h

abbrev N_is_within : List Str := ["value", "least", "most"]
/-- is_within -/
def t_is_within : DSt :=
  (dRet (dAndV (dCall C_is_whole (dCons (dVar 0) dNil)) (dChain gLe gLe (dVar 1) (dVar 0) (dVar 2))))

abbrev C_is_within : C0 := CLD 3 N_is_within t_is_within

theorem u_is_within {x0 x1 x2 : D} {P : D → Prop} (h : t_is_within { nx := fun _ => P .none, rt := fun d _ => P d } [.im x0, .im x1, .im x2]) : C_is_within [x0, x1, x2] P := CLD.of h

abbrev N_is_pair : List Str := ["value"]
/-- is_pair -/
def t_is_pair : DSt :=
  (dRet (dAndV (dIsi "tuple" (dVar 0)) (dBin gEq (dCallB gLen (dCons (dVar 0) dNil)) (dC (.int 2)))))

abbrev C_is_pair : C0 := CLD 1 N_is_pair t_is_pair

theorem u_is_pair {x0 : D} {P : D → Prop} (h : t_is_pair { nx := fun _ => P .none, rt := fun d _ => P d } [.im x0]) : C_is_pair [x0] P := CLD.of h

abbrev N_common_divisor : List Str := ["one", "other", "left", "right"]
/-- common_divisor -/
def t_common_divisor : DSt :=
  (dSeq (dPar 2 3 (dCons (dCallB gAbs (dCons (dVar 0) dNil)) (dCons (dCallB gAbs (dCons (dVar 1) dNil)) dNil)))
  (dSeq (dWhile (dTru (dVar 3)) (dPar 2 3 (dCons (dVar 3) (dCons (dBin gMod (dVar 2) (dVar 3)) dNil))))
  (dRet (dVar 2))))

abbrev C_common_divisor : C0 := CLD 2 N_common_divisor t_common_divisor

theorem u_common_divisor {x0 x1 : D} {P : D → Prop} (h : t_common_divisor { nx := fun _ => P .none, rt := fun d _ => P d } [.im x0, .im x1, .un, .un]) : C_common_divisor [x0, x1] P := CLD.of h

abbrev N_is_point_in : List Str := ["value", "number"]
/-- is_point_in -/
def t_is_point_in : DSt :=
  (dRet (dAndV (dCall C_is_pair (dCons (dVar 0) dNil)) (dCallB gAll (dCons (dFrz (dComp (dItT (dVar 0)) (dgName 1) dYes (dCall C_is_within (dCons (dVar 1) (dCons (dUn (fun i => .int (-i)) (dC (.int 1000))) (dCons (dC (.int 1000)) dNil)))) [1])) dNil))))

abbrev C_is_point_in : C0 := CLD 1 N_is_point_in t_is_point_in

theorem u_is_point_in {x0 : D} {P : D → Prop} (h : t_is_point_in { nx := fun _ => P .none, rt := fun d _ => P d } [.im x0, .un]) : C_is_point_in [x0] P := CLD.of h

abbrev N_is_step_in : List Str := ["value", "number"]
/-- is_step_in -/
def t_is_step_in : DSt :=
  (dRet (dAndV (dCall C_is_pair (dCons (dVar 0) dNil)) (dCallB gAll (dCons (dFrz (dComp (dItT (dVar 0)) (dgName 1) dYes (dCall C_is_within (dCons (dVar 1) (dCons (dUn (fun i => .int (-i)) (dC (.int 2000))) (dCons (dC (.int 2000)) dNil)))) [1])) dNil))))

abbrev C_is_step_in : C0 := CLD 1 N_is_step_in t_is_step_in

theorem u_is_step_in {x0 : D} {P : D → Prop} (h : t_is_step_in { nx := fun _ => P .none, rt := fun d _ => P d } [.im x0, .un]) : C_is_step_in [x0] P := CLD.of h

abbrev N_cross_in : List Str := ["one", "other"]
/-- cross_in -/
def t_cross_in : DSt :=
  (dRet (dBin gSub (dBin gMul (dBin gIx (dVar 0) (dC (.int 0))) (dBin gIx (dVar 1) (dC (.int 1)))) (dBin gMul (dBin gIx (dVar 0) (dC (.int 1))) (dBin gIx (dVar 1) (dC (.int 0))))))

abbrev C_cross_in : C0 := CLD 2 N_cross_in t_cross_in

theorem u_cross_in {x0 x1 : D} {P : D → Prop} (h : t_cross_in { nx := fun _ => P .none, rt := fun d _ => P d } [.im x0, .im x1]) : C_cross_in [x0, x1] P := CLD.of h

abbrev N_makers_in : List Str := ["one", "other", "first", "second", "left", "right", "times"]
/-- makers_in -/
def t_makers_in : DSt :=
  (dSeq (dAsg (dTup (dCons (dTup (dCons (dC (.int 1)) (dCons (dC (.int 0)) dNil))) (dCons (dTup (dCons (dC (.int 0)) (dCons (dC (.int 1)) dNil))) dNil))) (dgTup 2 (dgCons (dgName 2) (dgCons (dgName 3) dgNil))))
  (dSeq (dPar 4 5 (dCons (dVar 0) (dCons (dVar 1) dNil)))
  (dSeq (dWhile (dTru (dVar 5)) (dSeq (dAsg (dBin gDiv (dVar 4) (dVar 5)) (dgName 6))
  (dSeq (dPar 4 5 (dCons (dVar 5) (dCons (dBin gSub (dVar 4) (dBin gMul (dVar 6) (dVar 5))) dNil)))
  (dPar 2 3 (dCons (dVar 3) (dCons (dTup (dCons (dBin gSub (dBin gIx (dVar 2) (dC (.int 0))) (dBin gMul (dVar 6) (dBin gIx (dVar 3) (dC (.int 0))))) (dCons (dBin gSub (dBin gIx (dVar 2) (dC (.int 1))) (dBin gMul (dVar 6) (dBin gIx (dVar 3) (dC (.int 1))))) dNil))) dNil))))))
  (dRet (dIf (dB (dBin gGt (dVar 4) (dC (.int 0)))) (dVar 2) (dTup (dCons (dUn (fun i => .int (-i)) (dBin gIx (dVar 2) (dC (.int 0)))) (dCons (dUn (fun i => .int (-i)) (dBin gIx (dVar 2) (dC (.int 1)))) dNil))))))))

abbrev C_makers_in : C0 := CLD 2 N_makers_in t_makers_in

theorem u_makers_in {x0 x1 : D} {P : D → Prop} (h : t_makers_in { nx := fun _ => P .none, rt := fun d _ => P d } [.im x0, .im x1, .un, .un, .un, .un, .un]) : C_makers_in [x0, x1] P := CLD.of h

abbrev N_require_point : List Str := ["value"]
/-- require_point -/
def t_require_point : DSt :=
  (dIfS (dNot (dB (dCall C_is_point_in (dCons (dVar 0) dNil)))) dNever dPass)

abbrev C_require_point : C0 := CLD 1 N_require_point t_require_point

theorem u_require_point {x0 : D} {P : D → Prop} (h : t_require_point { nx := fun _ => P .none, rt := fun d _ => P d } [.im x0]) : C_require_point [x0] P := CLD.of h

abbrev N_is_grid_in : List Str := ["value", "step", "one", "other"]
/-- is_grid_in -/
def t_is_grid_in : DSt :=
  (dSeq (dIfS (dOr (dNot (dB (dIsi "tuple" (dVar 0)))) (dNot (dB (dChain gLt gLe (dC (.int 1)) (dCallB gLen (dCons (dVar 0) dNil)) (dC (.int 20)))))) (dRet (dC (.bool false))) dPass)
  (dSeq (dIfS (dNot (dB (dCallB gAll (dCons (dFrz (dComp (dItT (dVar 0)) (dgName 1) dYes (dCall C_is_step_in (dCons (dVar 1) dNil)) [1])) dNil)))) (dRet (dC (.bool false))) dPass)
  (dRet (dCallB gAny (dCons (dFrz (dComp2 (dItT (dVar 0)) (dgName 2) dYes (dItT (dVar 0)) (dgName 3) dYes (dBin gNe (dCall C_cross_in (dCons (dVar 2) (dCons (dVar 3) dNil))) (dC (.int 0))) [2, 3] [3])) dNil)))))

abbrev C_is_grid_in : C0 := CLD 1 N_is_grid_in t_is_grid_in

theorem u_is_grid_in {x0 : D} {P : D → Prop} (h : t_is_grid_in { nx := fun _ => P .none, rt := fun d _ => P d } [.im x0, .un, .un, .un]) : C_is_grid_in [x0] P := CLD.of h

abbrev N_less : List Str := ["one", "other", "many", "first", "second"]
/-- less -/
def t_less : DSt :=
  (dRet (dCallB gTuple (dCons (dFrz (dComp (dItZ (dCons (dVar 0) (dCons (dVar 1) dNil))) (dgTup 2 (dgCons (dgName 3) (dgCons (dgName 4) dgNil))) dYes (dBin gSub (dVar 3) (dBin gMul (dVar 2) (dVar 4))) [3, 4])) dNil)))

abbrev C_less : C0 := CLD 3 N_less t_less

theorem u_less {x0 x1 x2 : D} {P : D → Prop} (h : t_less { nx := fun _ => P .none, rt := fun d _ => P d } [.im x0, .im x1, .im x2, .un, .un]) : C_less [x0, x1, x2] P := CLD.of h

abbrev N_opposites_of : List Str := ["numbers", "number"]
/-- opposites_of -/
def t_opposites_of : DSt :=
  (dRet (dCallB gTuple (dCons (dFrz (dComp (dItT (dVar 0)) (dgName 1) dYes (dUn (fun i => .int (-i)) (dVar 1)) [1])) dNil)))

abbrev C_opposites_of : C0 := CLD 1 N_opposites_of t_opposites_of

theorem u_opposites_of {x0 : D} {P : D → Prop} (h : t_opposites_of { nx := fun _ => P .none, rt := fun d _ => P d } [.im x0, .un]) : C_opposites_of [x0] P := CLD.of h

abbrev N_Pair_pair : List Str := ["self"]
/-- Pair_pair -/
def t_Pair_pair : DSt :=
  (dRet (dTup (dCons (dFldD (Clss.adr "Pair") 2 (dVar 0)) (dCons (dFldD (Clss.adr "Pair") 3 (dVar 0)) dNil))))

abbrev C_Pair_pair : C0 := CLD 1 N_Pair_pair t_Pair_pair

theorem u_Pair_pair {x0 : D} {P : D → Prop} (h : t_Pair_pair { nx := fun _ => P .none, rt := fun d _ => P d } [.im x0]) : C_Pair_pair [x0] P := CLD.of h

abbrev N_Pair_settle : List Str := ["self", "many"]
/-- Pair_settle -/
def t_Pair_settle : DSt :=
  (dSeq (dIfS (dB (dBin gLt (dBin gIx (dFldO (Clss.adr "Pair") 0 2) (dC (.int 0))) (dC (.int 0)))) (dAsg (dTup (dCons (dCall C_less (dCons (dTup (dCons (dC (.int 0)) (dCons (dC (.int 0)) dNil))) (dCons (dFldO (Clss.adr "Pair") 0 2) (dCons (dC (.int 1)) dNil)))) (dCons (dCall C_opposites_of (dCons (dFldO (Clss.adr "Pair") 0 0) dNil)) dNil))) (dgTup 2 (dgCons (dgFld (Clss.adr "Pair") 0 2) (dgCons (dgFld (Clss.adr "Pair") 0 0) dgNil)))) dPass)
  (dSeq (dIfS (dB (dBin gLt (dBin gIx (dFldO (Clss.adr "Pair") 0 3) (dC (.int 1))) (dC (.int 0)))) (dAsg (dTup (dCons (dCall C_less (dCons (dTup (dCons (dC (.int 0)) (dCons (dC (.int 0)) dNil))) (dCons (dFldO (Clss.adr "Pair") 0 3) (dCons (dC (.int 1)) dNil)))) (dCons (dCall C_opposites_of (dCons (dFldO (Clss.adr "Pair") 0 1) dNil)) dNil))) (dgTup 2 (dgCons (dgFld (Clss.adr "Pair") 0 3) (dgCons (dgFld (Clss.adr "Pair") 0 1) dgNil)))) dPass)
  (dSeq (dAsg (dBin gDiv (dBin gIx (dFldO (Clss.adr "Pair") 0 2) (dC (.int 1))) (dBin gIx (dFldO (Clss.adr "Pair") 0 3) (dC (.int 1)))) (dgName 1))
  (dSeq (dAsg (dCall C_less (dCons (dFldO (Clss.adr "Pair") 0 2) (dCons (dFldO (Clss.adr "Pair") 0 3) (dCons (dVar 1) dNil)))) (dgFld (Clss.adr "Pair") 0 2))
  (dAsg (dCall C_less (dCons (dFldO (Clss.adr "Pair") 0 0) (dCons (dFldO (Clss.adr "Pair") 0 1) (dCons (dVar 1) dNil)))) (dgFld (Clss.adr "Pair") 0 0))))))

abbrev C_Pair_settle : C1 := CLB 1 N_Pair_settle t_Pair_settle

theorem u_Pair_settle {cs : Ow} {P : D → Ow → Prop} (h : t_Pair_settle { nx := fun e => lentEnd P .none e, rt := lentEnd P } [.bo cs, .un]) : C_Pair_settle cs [] P := CLB.of h

abbrev N_Pair_take : List Str := ["self", "step", "by", "many"]
/-- Pair_take -/
def t_Pair_take : DSt :=
  (dSeq (dWhile (dB (dBin gNe (dBin gIx (dVar 1) (dC (.int 0))) (dC (.int 0)))) (dIfS (dB (dBin gEq (dBin gIx (dFldO (Clss.adr "Pair") 0 2) (dC (.int 0))) (dC (.int 0)))) (dSeq (dAsg (dTup (dCons (dFldO (Clss.adr "Pair") 0 2) (dCons (dVar 1) dNil))) (dgTup 2 (dgCons (dgName 1) (dgCons (dgFld (Clss.adr "Pair") 0 2) dgNil))))
  (dAsg (dTup (dCons (dFldO (Clss.adr "Pair") 0 0) (dCons (dVar 2) dNil))) (dgTup 2 (dgCons (dgName 2) (dgCons (dgFld (Clss.adr "Pair") 0 0) dgNil))))) (dSeq (dAsg (dBin gDivG (dBin gIx (dVar 1) (dC (.int 0))) (dBin gIx (dFldO (Clss.adr "Pair") 0 2) (dC (.int 0)))) (dgName 3))
  (dSeq (dPar 1 2 (dCons (dCall C_less (dCons (dVar 1) (dCons (dFldO (Clss.adr "Pair") 0 2) (dCons (dVar 3) dNil)))) (dCons (dCall C_less (dCons (dVar 2) (dCons (dFldO (Clss.adr "Pair") 0 0) (dCons (dVar 3) dNil)))) dNil)))
  (dIfS (dB (dBin gNe (dBin gIx (dVar 1) (dC (.int 0))) (dC (.int 0)))) (dSeq (dAsg (dTup (dCons (dFldO (Clss.adr "Pair") 0 2) (dCons (dVar 1) dNil))) (dgTup 2 (dgCons (dgName 1) (dgCons (dgFld (Clss.adr "Pair") 0 2) dgNil))))
  (dAsg (dTup (dCons (dFldO (Clss.adr "Pair") 0 0) (dCons (dVar 2) dNil))) (dgTup 2 (dgCons (dgName 2) (dgCons (dgFld (Clss.adr "Pair") 0 0) dgNil))))) dPass)))))
  (dWhile (dB (dBin gNe (dBin gIx (dVar 1) (dC (.int 1))) (dC (.int 0)))) (dSeq (dIfS (dB (dBin gNe (dBin gIx (dFldO (Clss.adr "Pair") 0 3) (dC (.int 1))) (dC (.int 0)))) (dSeq (dAsg (dBin gDivG (dBin gIx (dVar 1) (dC (.int 1))) (dBin gIx (dFldO (Clss.adr "Pair") 0 3) (dC (.int 1)))) (dgName 3))
  (dPar 1 2 (dCons (dCall C_less (dCons (dVar 1) (dCons (dFldO (Clss.adr "Pair") 0 3) (dCons (dVar 3) dNil)))) (dCons (dCall C_less (dCons (dVar 2) (dCons (dFldO (Clss.adr "Pair") 0 1) (dCons (dVar 3) dNil)))) dNil)))) dPass)
  (dIfS (dB (dBin gNe (dBin gIx (dVar 1) (dC (.int 1))) (dC (.int 0)))) (dSeq (dAsg (dTup (dCons (dFldO (Clss.adr "Pair") 0 3) (dCons (dVar 1) dNil))) (dgTup 2 (dgCons (dgName 1) (dgCons (dgFld (Clss.adr "Pair") 0 3) dgNil))))
  (dAsg (dTup (dCons (dFldO (Clss.adr "Pair") 0 1) (dCons (dVar 2) dNil))) (dgTup 2 (dgCons (dgName 2) (dgCons (dgFld (Clss.adr "Pair") 0 1) dgNil))))) dPass))))

abbrev C_Pair_take : C1 := CLB 3 N_Pair_take t_Pair_take

theorem u_Pair_take {cs : Ow} {x1 x2 : D} {P : D → Ow → Prop} (h : t_Pair_take { nx := fun e => lentEnd P .none e, rt := lentEnd P } [.bo cs, .im x1, .im x2, .un]) : C_Pair_take cs [x1, x2] P := CLB.of h

abbrev N_Pair___init__ : List Str := ["self", "steps", "none", "at", "step", "index"]
/-- Pair___init__ -/
def t_Pair___init__ : DSt :=
  (dSeq (dAsg (dBin gRepT (dTup (dCons (dC (.int 0)) dNil)) (dCallB gLen (dCons (dVar 1) dNil))) (dgName 2))
  (dSeq (dAsg (dTup (dCons (dTup (dCons (dC (.int 0)) (dCons (dC (.int 0)) dNil))) (dCons (dVar 2) dNil))) (dgTup 2 (dgCons (dgFld (Clss.adr "Pair") 0 2) (dgCons (dgFld (Clss.adr "Pair") 0 0) dgNil))))
  (dSeq (dAsg (dTup (dCons (dTup (dCons (dC (.int 0)) (dCons (dC (.int 0)) dNil))) (dCons (dVar 2) dNil))) (dgTup 2 (dgCons (dgFld (Clss.adr "Pair") 0 3) (dgCons (dgFld (Clss.adr "Pair") 0 1) dgNil))))
  (dSeq (dFor (dItE (dVar 1)) (dgTup 2 (dgCons (dgName 3) (dgCons (dgName 4) dgNil))) (dDrop (dMethO (Clss.adr "Pair") 0 C_Pair_take (dCons (dVar 4) (dCons (dCallB gTuple (dCons (dFrz (dComp (dRng1 (dCons (dCallB gLen (dCons (dVar 1) dNil)) dNil)) (dgName 5) dYes (dCallB gInt (dCons (dBin gEq (dVar 3) (dVar 5)) dNil)) [5])) dNil)) dNil)))))
  (dDrop (dMethO (Clss.adr "Pair") 0 C_Pair_settle dNil))))))

abbrev C_Pair___init__ : C1 := CLB 2 N_Pair___init__ t_Pair___init__

theorem u_Pair___init__ {cs : Ow} {x1 : D} {P : D → Ow → Prop} (h : t_Pair___init__ { nx := fun e => lentEnd P .none e, rt := lentEnd P } [.bo cs, .im x1, .un, .un, .un, .un]) : C_Pair___init__ cs [x1] P := CLB.of h

abbrev N_grid_pair_in : List Str := ["steps"]
/-- grid_pair_in -/
def t_grid_pair_in : DSt :=
  (dRet (dMethD (Clss.adr "Pair") C_Pair_pair (dFrz (dNewS (Clss.adr "Pair") 4 C_Pair___init__ (dCons (dVar 0) dNil))) dNil))

abbrev C_grid_pair_in : C0 := CLD 1 N_grid_pair_in t_grid_pair_in

theorem u_grid_pair_in {x0 : D} {P : D → Prop} (h : t_grid_pair_in { nx := fun _ => P .none, rt := fun d _ => P d } [.im x0]) : C_grid_pair_in [x0] P := CLD.of h

abbrev N_index_in : List Str := ["steps", "a", "b", "none", "d"]
/-- index_in -/
def t_index_in : DSt :=
  (dSeq (dAsg (dCall C_grid_pair_in (dCons (dVar 0) dNil)) (dgTup 2 (dgCons (dgTup 2 (dgCons (dgName 1) (dgCons (dgName 2) dgNil))) (dgCons (dgTup 2 (dgCons (dgName 3) (dgCons (dgName 4) dgNil))) dgNil))))
  (dRet (dBin gMul (dVar 1) (dVar 4))))

abbrev C_index_in : C0 := CLD 1 N_index_in t_index_in

theorem u_index_in {x0 : D} {P : D → Prop} (h : t_index_in { nx := fun _ => P .none, rt := fun d _ => P d } [.im x0, .un, .un, .un, .un]) : C_index_in [x0] P := CLD.of h

abbrev N_least_common : List Str := ["one", "other"]
/-- least_common -/
def t_least_common : DSt :=
  (dRet (dBin gMul (dBin gDiv (dVar 0) (dCall C_common_divisor (dCons (dVar 0) (dCons (dVar 1) dNil)))) (dVar 1)))

abbrev C_least_common : C0 := CLD 2 N_least_common t_least_common

theorem u_least_common {x0 x1 : D} {P : D → Prop} (h : t_least_common { nx := fun _ => P .none, rt := fun d _ => P d } [.im x0, .im x1]) : C_least_common [x0, x1] P := CLD.of h

abbrev N_Pair_told_as : List Str := ["self", "point", "x", "y", "many", "rest", "more", "one", "other"]
/-- Pair_told_as -/
def t_Pair_told_as : DSt :=
  (dSeq (dAsg (dVar 1) (dgTup 2 (dgCons (dgName 2) (dgCons (dgName 3) dgNil))))
  (dSeq (dIfS (dB (dBin gNe (dBin gMod (dVar 2) (dBin gIx (dFldD (Clss.adr "Pair") 2 (dVar 0)) (dC (.int 0)))) (dC (.int 0)))) (dRet (dC .none)) dPass)
  (dSeq (dAsg (dBin gDiv (dVar 2) (dBin gIx (dFldD (Clss.adr "Pair") 2 (dVar 0)) (dC (.int 0)))) (dgName 4))
  (dSeq (dAsg (dBin gSub (dVar 3) (dBin gMul (dVar 4) (dBin gIx (dFldD (Clss.adr "Pair") 2 (dVar 0)) (dC (.int 1))))) (dgName 5))
  (dSeq (dIfS (dB (dBin gNe (dBin gMod (dVar 5) (dBin gIx (dFldD (Clss.adr "Pair") 3 (dVar 0)) (dC (.int 1)))) (dC (.int 0)))) (dRet (dC .none)) dPass)
  (dSeq (dAsg (dBin gDiv (dVar 5) (dBin gIx (dFldD (Clss.adr "Pair") 3 (dVar 0)) (dC (.int 1)))) (dgName 6))
  (dRet (dCallB gTuple (dCons (dFrz (dComp (dItZ (dCons (dFldD (Clss.adr "Pair") 0 (dVar 0)) (dCons (dFldD (Clss.adr "Pair") 1 (dVar 0)) dNil))) (dgTup 2 (dgCons (dgName 7) (dgCons (dgName 8) dgNil))) dYes (dBin gAdd (dBin gMul (dVar 4) (dVar 7)) (dBin gMul (dVar 6) (dVar 8))) [7, 8])) dNil)))))))))

abbrev C_Pair_told_as : C0 := CLD 2 N_Pair_told_as t_Pair_told_as

theorem u_Pair_told_as {x0 x1 : D} {P : D → Prop} (h : t_Pair_told_as { nx := fun _ => P .none, rt := fun d _ => P d } [.im x0, .im x1, .un, .un, .un, .un, .un, .un, .un]) : C_Pair_told_as [x0, x1] P := CLD.of h

abbrev N_has_in_grid : List Str := ["steps", "point"]
/-- has_in_grid -/
def t_has_in_grid : DSt :=
  (dRet (dBin gNotN (dMethD (Clss.adr "Pair") C_Pair_told_as (dFrz (dNewS (Clss.adr "Pair") 4 C_Pair___init__ (dCons (dVar 0) dNil))) (dCons (dVar 1) dNil)) (dC .none)))

abbrev C_has_in_grid : C0 := CLD 2 N_has_in_grid t_has_in_grid

theorem u_has_in_grid {x0 x1 : D} {P : D → Prop} (h : t_has_in_grid { nx := fun _ => P .none, rt := fun d _ => P d } [.im x0, .im x1]) : C_has_in_grid [x0, x1] P := CLD.of h

abbrev N_meeting_remainder : List Str := ["one", "other", "first", "second", "shared", "p", "q"]
/-- meeting_remainder -/
def t_meeting_remainder : DSt :=
  (dSeq (dAsg (dCall C_common_divisor (dCons (dVar 0) (dCons (dVar 1) dNil))) (dgName 4))
  (dSeq (dAsg (dCall C_makers_in (dCons (dVar 0) (dCons (dVar 1) dNil))) (dgTup 2 (dgCons (dgName 5) (dgCons (dgName 6) dgNil))))
  (dRet (dBin gMod (dBin gAdd (dVar 2) (dBin gMul (dBin gMul (dBin gDiv (dBin gSub (dVar 3) (dVar 2)) (dVar 4)) (dVar 5)) (dVar 0))) (dCall C_least_common (dCons (dVar 0) (dCons (dVar 1) dNil)))))))

abbrev C_meeting_remainder : C0 := CLD 4 N_meeting_remainder t_meeting_remainder

theorem u_meeting_remainder {x0 x1 x2 x3 : D} {P : D → Prop} (h : t_meeting_remainder { nx := fun _ => P .none, rt := fun d _ => P d } [.im x0, .im x1, .im x2, .im x3, .un, .un, .un]) : C_meeting_remainder [x0, x1, x2, x3] P := CLD.of h

abbrev N_shared_pair : List Str := ["steps", "others", "a", "b", "none", "d", "c", "e", "nought", "f", "long", "tall", "apart", "many", "first", "second"]
/-- shared_pair -/
def t_shared_pair : DSt :=
  (dSeq (dAsg (dCall C_grid_pair_in (dCons (dVar 0) dNil)) (dgTup 2 (dgCons (dgTup 2 (dgCons (dgName 2) (dgCons (dgName 3) dgNil))) (dgCons (dgTup 2 (dgCons (dgName 4) (dgCons (dgName 5) dgNil))) dgNil))))
  (dSeq (dAsg (dCall C_grid_pair_in (dCons (dVar 1) dNil)) (dgTup 2 (dgCons (dgTup 2 (dgCons (dgName 6) (dgCons (dgName 7) dgNil))) (dgCons (dgTup 2 (dgCons (dgName 8) (dgCons (dgName 9) dgNil))) dgNil))))
  (dSeq (dPar 10 11 (dCons (dCall C_least_common (dCons (dVar 2) (dCons (dVar 6) dNil))) (dCons (dCall C_common_divisor (dCons (dVar 5) (dCons (dVar 9) dNil))) dNil)))
  (dSeq (dAsg (dBin gMod (dBin gSub (dBin gMul (dBin gDiv (dVar 10) (dVar 2)) (dVar 3)) (dBin gMul (dBin gDiv (dVar 10) (dVar 6)) (dVar 7))) (dVar 11)) (dgName 12))
  (dSeq (dAsg (dBin gDiv (dVar 11) (dCall C_common_divisor (dCons (dVar 11) (dCons (dVar 12) dNil)))) (dgName 13))
  (dSeq (dPar 14 15 (dCons (dBin gMul (dBin gMul (dVar 13) (dBin gDiv (dVar 10) (dVar 2))) (dVar 3)) (dCons (dBin gMul (dBin gMul (dVar 13) (dBin gDiv (dVar 10) (dVar 6))) (dVar 7)) dNil)))
  (dRet (dTup (dCons (dTup (dCons (dBin gMul (dVar 13) (dVar 10)) (dCons (dCall C_meeting_remainder (dCons (dVar 5) (dCons (dVar 9) (dCons (dVar 14) (dCons (dVar 15) dNil))))) dNil))) (dCons (dTup (dCons (dC (.int 0)) (dCons (dCall C_least_common (dCons (dVar 5) (dCons (dVar 9) dNil))) dNil))) dNil))))))))))

abbrev C_shared_pair : C0 := CLD 2 N_shared_pair t_shared_pair

theorem u_shared_pair {x0 x1 : D} {P : D → Prop} (h : t_shared_pair { nx := fun _ => P .none, rt := fun d _ => P d } [.im x0, .im x1, .un, .un, .un, .un, .un, .un, .un, .un, .un, .un, .un, .un, .un, .un]) : C_shared_pair [x0, x1] P := CLD.of h

abbrev N_is_within_grid : List Str := ["steps", "others", "other", "step"]
/-- is_within_grid -/
def t_is_within_grid : DSt :=
  (dSeq (dAsg (dFrz (dNewS (Clss.adr "Pair") 4 C_Pair___init__ (dCons (dVar 1) dNil))) (dgName 2))
  (dRet (dCallB gAll (dCons (dFrz (dComp (dItT (dVar 0)) (dgName 3) dYes (dBin gNotN (dMethD (Clss.adr "Pair") C_Pair_told_as (dVar 2) (dCons (dVar 3) dNil)) (dC .none)) [3])) dNil))))

abbrev C_is_within_grid : C0 := CLD 2 N_is_within_grid t_is_within_grid

theorem u_is_within_grid {x0 x1 : D} {P : D → Prop} (h : t_is_within_grid { nx := fun _ => P .none, rt := fun d _ => P d } [.im x0, .im x1, .un, .un]) : C_is_within_grid [x0, x1] P := CLD.of h

abbrev N_require_grid : List Str := ["value"]
/-- require_grid -/
def t_require_grid : DSt :=
  (dIfS (dNot (dB (dCall C_is_grid_in (dCons (dVar 0) dNil)))) dNever dPass)

abbrev C_require_grid : C0 := CLD 1 N_require_grid t_require_grid

theorem u_require_grid {x0 : D} {P : D → Prop} (h : t_require_grid { nx := fun _ => P .none, rt := fun d _ => P d } [.im x0]) : C_require_grid [x0] P := CLD.of h

abbrev N_require_grid_point : List Str := ["steps", "point"]
/-- require_grid_point -/
def t_require_grid_point : DSt :=
  (dSeq (dDrop (dCall C_require_grid (dCons (dVar 0) dNil)))
  (dDrop (dCall C_require_point (dCons (dVar 1) dNil))))

abbrev C_require_grid_point : C0 := CLD 2 N_require_grid_point t_require_grid_point

theorem u_require_grid_point {x0 x1 : D} {P : D → Prop} (h : t_require_grid_point { nx := fun _ => P .none, rt := fun d _ => P d } [.im x0, .im x1]) : C_require_grid_point [x0, x1] P := CLD.of h

abbrev N_require_grids : List Str := ["steps", "others"]
/-- require_grids -/
def t_require_grids : DSt :=
  (dSeq (dDrop (dCall C_require_grid (dCons (dVar 0) dNil)))
  (dDrop (dCall C_require_grid (dCons (dVar 1) dNil))))

abbrev C_require_grids : C0 := CLD 2 N_require_grids t_require_grids

theorem u_require_grids {x0 x1 : D} {P : D → Prop} (h : t_require_grids { nx := fun _ => P .none, rt := fun d _ => P d } [.im x0, .im x1]) : C_require_grids [x0, x1] P := CLD.of h

abbrev N_grid_pair : List Str := ["steps"]
/-- grid_pair -/
def t_grid_pair : DSt :=
  (dSeq (dDrop (dCall C_require_grid (dCons (dVar 0) dNil)))
  (dRet (dCall C_grid_pair_in (dCons (dVar 0) dNil))))

abbrev C_grid_pair : C0 := CLD 1 N_grid_pair t_grid_pair

theorem u_grid_pair {x0 : D} {P : D → Prop} (h : t_grid_pair { nx := fun _ => P .none, rt := fun d _ => P d } [.im x0]) : C_grid_pair [x0] P := CLD.of h

abbrev N_grid_index : List Str := ["steps"]
/-- grid_index -/
def t_grid_index : DSt :=
  (dSeq (dDrop (dCall C_require_grid (dCons (dVar 0) dNil)))
  (dRet (dCall C_index_in (dCons (dVar 0) dNil))))

abbrev C_grid_index : C0 := CLD 1 N_grid_index t_grid_index

theorem u_grid_index {x0 : D} {P : D → Prop} (h : t_grid_index { nx := fun _ => P .none, rt := fun d _ => P d } [.im x0]) : C_grid_index [x0] P := CLD.of h

abbrev N_is_in_grid : List Str := ["steps", "point"]
/-- is_in_grid -/
def t_is_in_grid : DSt :=
  (dSeq (dDrop (dCall C_require_grid_point (dCons (dVar 0) (dCons (dVar 1) dNil))))
  (dRet (dCall C_has_in_grid (dCons (dVar 0) (dCons (dVar 1) dNil)))))

abbrev C_is_in_grid : C0 := CLD 2 N_is_in_grid t_is_in_grid

theorem u_is_in_grid {x0 x1 : D} {P : D → Prop} (h : t_is_in_grid { nx := fun _ => P .none, rt := fun d _ => P d } [.im x0, .im x1]) : C_is_in_grid [x0, x1] P := CLD.of h

abbrev N_joint_grid : List Str := ["steps", "others"]
/-- joint_grid -/
def t_joint_grid : DSt :=
  (dSeq (dDrop (dCall C_require_grids (dCons (dVar 0) (dCons (dVar 1) dNil))))
  (dRet (dCall C_grid_pair_in (dCons (dBin gAdd (dVar 0) (dVar 1)) dNil))))

abbrev C_joint_grid : C0 := CLD 2 N_joint_grid t_joint_grid

theorem u_joint_grid {x0 x1 : D} {P : D → Prop} (h : t_joint_grid { nx := fun _ => P .none, rt := fun d _ => P d } [.im x0, .im x1]) : C_joint_grid [x0, x1] P := CLD.of h

abbrev N_shared_grid : List Str := ["steps", "others"]
/-- shared_grid -/
def t_shared_grid : DSt :=
  (dSeq (dDrop (dCall C_require_grids (dCons (dVar 0) (dCons (dVar 1) dNil))))
  (dRet (dCall C_shared_pair (dCons (dVar 0) (dCons (dVar 1) dNil)))))

abbrev C_shared_grid : C0 := CLD 2 N_shared_grid t_shared_grid

theorem u_shared_grid {x0 x1 : D} {P : D → Prop} (h : t_shared_grid { nx := fun _ => P .none, rt := fun d _ => P d } [.im x0, .im x1]) : C_shared_grid [x0, x1] P := CLD.of h

abbrev N_lies_within : List Str := ["steps", "others"]
/-- lies_within -/
def t_lies_within : DSt :=
  (dSeq (dDrop (dCall C_require_grids (dCons (dVar 0) (dCons (dVar 1) dNil))))
  (dRet (dCall C_is_within_grid (dCons (dVar 0) (dCons (dVar 1) dNil)))))

abbrev C_lies_within : C0 := CLD 2 N_lies_within t_lies_within

theorem u_lies_within {x0 x1 : D} {P : D → Prop} (h : t_lies_within { nx := fun _ => P .none, rt := fun d _ => P d } [.im x0, .im x1]) : C_lies_within [x0, x1] P := CLD.of h

abbrev N_are_same : List Str := ["steps", "others"]
/-- are_same -/
def t_are_same : DSt :=
  (dSeq (dDrop (dCall C_require_grids (dCons (dVar 0) (dCons (dVar 1) dNil))))
  (dRet (dBin gEq (dCall C_grid_pair_in (dCons (dVar 0) dNil)) (dCall C_grid_pair_in (dCons (dVar 1) dNil)))))

abbrev C_are_same : C0 := CLD 2 N_are_same t_are_same

theorem u_are_same {x0 x1 : D} {P : D → Prop} (h : t_are_same { nx := fun _ => P .none, rt := fun d _ => P d } [.im x0, .im x1]) : C_are_same [x0, x1] P := CLD.of h

abbrev N__law_dice : List Str := ["script", "spot", "cell", "great"]
/-- _law_dice -/
def t__law_dice : DSt :=
  (dSeq (dAsg (dIf (dB (dBin gLt (dVar 1) (dCallB gLen (dCons (dVar 0) dNil)))) (dCallB gInt (dCons (dBin gIx (dVar 0) (dVar 1)) dNil)) (dBin gAdd (dBin gMul (dC (.int 131)) (dVar 1)) (dC (.int 71)))) (dgName 2))
  (dSeq (dAsg (dBin gMod (dCallB gMax (dCons (dC (.int 0)) (dCons (dBin gSub (dCallB gAbs (dCons (dVar 2) dNil)) (dBin gPow (dC (.int 10)) (dC (.int 16)))) dNil))) (dBin gMul (dBin gPow (dC (.int 10)) (dC (.int 55))) (dBin gPow (dC (.int 10)) (dC (.int 55))))) (dgName 3))
  (dRetF (dFLst (dCons (dVar 3) (dCons (dBin gMod (dBin gAdd (dBin gAdd (dBin gMod (dCallB gAbs (dCons (dVar 2) dNil)) (dC (.int 18446744073709551557))) (dBin gMul (dC (.int 7919)) (dVar 1))) (dBin gMul (dC (.int 31)) (dCallB gInt (dCons (dBin gLt (dVar 2) (dC (.int 0))) dNil)))) (dC (.int 18446744073709551616))) dNil))))))

abbrev C__law_dice : CF := CLF 2 N__law_dice t__law_dice

theorem u__law_dice {x0 x1 : D} {P : Ow → Prop} (h : t__law_dice { nx := fun _ => False, rt := fun _ _ => False, rf := fun es _ => P es } [.im x0, .im x1, .un, .un]) : C__law_dice [x0, x1] P := CLF.of h

abbrev N__law_roll : List Str := ["dice", "total", "found"]
/-- _law_roll -/
def t__law_roll : DSt :=
  (dSeq (dIfS (dB (dBin gGt (dIxN 0 (dC (.int 0))) (dC (.int 0)))) (dSeq (dAsg (dCallB gInt (dCons (dBin gMod (dIxN 0 (dC (.int 0))) (dVar 1)) dNil)) (dgName 2))
  (dSeq (dSetIx 0 (dC (.int 0)) (dBin gDiv (dIxN 0 (dC (.int 0))) (dVar 1)))
  (dRet (dVar 2)))) dPass)
  (dSeq (dSetIx 0 (dC (.int 1)) (dBin gMod (dBin gAdd (dBin gMul (dIxN 0 (dC (.int 1))) (dC (.int 6364136223846793005))) (dC (.int 1442695040888963407))) (dC (.int 18446744073709551616))))
  (dRet (dBin gMod (dCallB gInt (dCons (dBin gDiv (dIxN 0 (dC (.int 1))) (dC (.int 4294967296))) dNil)) (dVar 1)))))

abbrev C__law_roll : C1 := CLB 2 N__law_roll t__law_roll

theorem u__law_roll {cs : Ow} {x1 : D} {P : D → Ow → Prop} (h : t__law_roll { nx := fun e => lentEnd P .none e, rt := lentEnd P } [.bo cs, .im x1, .un]) : C__law_roll cs [x1] P := CLB.of h

abbrev N__law_common : List Str := ["one", "far"]
/-- _law_common -/
def t__law_common : DSt :=
  (dSeq (dPar 0 1 (dCons (dCallB gAbs (dCons (dVar 0) dNil)) (dCons (dCallB gAbs (dCons (dVar 1) dNil)) dNil)))
  (dSeq (dWhile (dB (dBin gNe (dVar 1) (dC (.int 0)))) (dPar 0 1 (dCons (dVar 1) (dCons (dBin gMod (dVar 0) (dVar 1)) dNil))))
  (dRet (dVar 0))))

abbrev C__law_common : C0 := CLD 2 N__law_common t__law_common

theorem u__law_common {x0 x1 : D} {P : D → Prop} (h : t__law_common { nx := fun _ => P .none, rt := fun d _ => P d } [.im x0, .im x1]) : C__law_common [x0, x1] P := CLD.of h

abbrev N__law_mixed : List Str := ["dice", "items", "left", "found"]
/-- _law_mixed -/
def t__law_mixed : DSt :=
  (dSeq (dParFF 2 3 (dFOf (dVar 1)) (dFLst dNil))
  (dSeq (dWhile (dNeO 2 (dLst dNil)) (dAppend 3 (dPopAt 2 (dCallL 0 C__law_roll (dCons (dLenN 2) dNil)))))
  (dRet (dVar 3))))

abbrev C__law_mixed : C1 := CLB 2 N__law_mixed t__law_mixed

theorem u__law_mixed {cs : Ow} {x1 : D} {P : D → Ow → Prop} (h : t__law_mixed { nx := fun e => lentEnd P .none e, rt := lentEnd P } [.bo cs, .im x1, .un, .un]) : C__law_mixed cs [x1] P := CLB.of h

abbrev N__law_steps : List Str := ["dice", "a", "b", "d", "one", "far", "turn", "many", "found"]
/-- _law_steps -/
def t__law_steps : DSt :=
  (dSeq (dPar 4 5 (dCons (dTup (dCons (dVar 1) (dCons (dVar 2) dNil))) (dCons (dTup (dCons (dC (.int 0)) (dCons (dVar 3) dNil))) dNil)))
  (dSeq (dFor (dRng1 (dCons (dCallL 0 C__law_roll (dCons (dC (.int 4)) dNil)) dNil)) (dgName 6) (dSeq (dAsg (dBin gSub (dCallL 0 C__law_roll (dCons (dC (.int 5)) dNil)) (dC (.int 2))) (dgName 7))
  (dPar 4 5 (dCons (dVar 5) (dCons (dTup (dCons (dBin gAdd (dBin gIx (dVar 4) (dC (.int 0))) (dBin gMul (dVar 7) (dBin gIx (dVar 5) (dC (.int 0))))) (dCons (dBin gAdd (dBin gIx (dVar 4) (dC (.int 1))) (dBin gMul (dVar 7) (dBin gIx (dVar 5) (dC (.int 1))))) dNil))) dNil)))))
  (dSeq (dAsg (dBin gAdd (dBin gAdd (dLst (dCons (dVar 4) (dCons (dVar 5) dNil))) (dRep (dFLst (dCons (dTup (dCons (dBin gAdd (dBin gIx (dVar 4) (dC (.int 0))) (dBin gIx (dVar 5) (dC (.int 0)))) (dCons (dBin gAdd (dBin gIx (dVar 4) (dC (.int 1))) (dBin gIx (dVar 5) (dC (.int 1)))) dNil))) dNil)) (dCallL 0 C__law_roll (dCons (dC (.int 2)) dNil)))) (dRep (dFLst (dCons (dTup (dCons (dBin gSub (dBin gMul (dC (.int 2)) (dBin gIx (dVar 4) (dC (.int 0)))) (dBin gIx (dVar 5) (dC (.int 0)))) (dCons (dBin gSub (dBin gMul (dC (.int 2)) (dBin gIx (dVar 4) (dC (.int 1)))) (dBin gIx (dVar 5) (dC (.int 1)))) dNil))) dNil)) (dCallL 0 C__law_roll (dCons (dC (.int 2)) dNil)))) (dgName 8))
  (dRet (dCallB gTuple (dCons (dCallL 0 C__law_mixed (dCons (dVar 8) dNil)) dNil))))))

abbrev C__law_steps : C1 := CLB 4 N__law_steps t__law_steps

theorem u__law_steps {cs : Ow} {x1 x2 x3 : D} {P : D → Ow → Prop} (h : t__law_steps { nx := fun e => lentEnd P .none e, rt := lentEnd P } [.bo cs, .im x1, .im x2, .im x3, .un, .un, .un, .un, .un]) : C__law_steps cs [x1, x2, x3] P := CLB.of h

abbrev N__law_is_in : List Str := ["point", "pair", "a", "b", "zero", "d"]
/-- _law_is_in -/
def t__law_is_in : DSt :=
  (dSeq (dAsg (dVar 1) (dgTup 2 (dgCons (dgTup 2 (dgCons (dgName 2) (dgCons (dgName 3) dgNil))) (dgCons (dgTup 2 (dgCons (dgName 4) (dgCons (dgName 5) dgNil))) dgNil))))
  (dRet (dAndV (dBin gEq (dBin gMod (dBin gIx (dVar 0) (dC (.int 0))) (dVar 2)) (dC (.int 0))) (dBin gEq (dBin gMod (dBin gSub (dBin gIx (dVar 0) (dC (.int 1))) (dBin gMul (dBin gDiv (dBin gIx (dVar 0) (dC (.int 0))) (dVar 2)) (dVar 3))) (dVar 5)) (dC (.int 0))))))

abbrev C__law_is_in : C0 := CLD 2 N__law_is_in t__law_is_in

theorem u__law_is_in {x0 x1 : D} {P : D → Prop} (h : t__law_is_in { nx := fun _ => P .none, rt := fun d _ => P d } [.im x0, .im x1, .un, .un, .un, .un]) : C__law_is_in [x0, x1] P := CLD.of h

abbrev N__law_index : List Str := ["steps", "found", "at", "one", "far"]
/-- _law_index -/
def t__law_index : DSt :=
  (dSeq (dAsg (dC (.int 0)) (dgName 1))
  (dSeq (dFor (dItE (dVar 0)) (dgTup 2 (dgCons (dgName 2) (dgCons (dgName 3) dgNil))) (dFor (dItT (dSl (dVar 0) dONo (dOI (dVar 2)))) (dgName 4) (dAsg (dCall C__law_common (dCons (dVar 1) (dCons (dBin gSub (dBin gMul (dBin gIx (dVar 3) (dC (.int 0))) (dBin gIx (dVar 4) (dC (.int 1)))) (dBin gMul (dBin gIx (dVar 3) (dC (.int 1))) (dBin gIx (dVar 4) (dC (.int 0))))) dNil))) (dgName 1))))
  (dRet (dVar 1))))

abbrev C__law_index : C0 := CLD 1 N__law_index t__law_index

theorem u__law_index {x0 : D} {P : D → Prop} (h : t__law_index { nx := fun _ => P .none, rt := fun d _ => P d } [.im x0, .un, .un, .un, .un]) : C__law_index [x0] P := CLD.of h

abbrev N__law_drawn : List Str := ["dice", "most", "d"]
/-- _law_drawn -/
def t__law_drawn : DSt :=
  (dSeq (dAsg (dBin gAdd (dC (.int 1)) (dCallL 0 C__law_roll (dCons (dVar 1) dNil))) (dgName 2))
  (dRet (dTup (dCons (dTup (dCons (dBin gAdd (dC (.int 1)) (dCallL 0 C__law_roll (dCons (dVar 1) dNil))) (dCons (dCallL 0 C__law_roll (dCons (dVar 2) dNil)) dNil))) (dCons (dTup (dCons (dC (.int 0)) (dCons (dVar 2) dNil))) dNil)))))

abbrev C__law_drawn : C1 := CLB 2 N__law_drawn t__law_drawn

theorem u__law_drawn {cs : Ow} {x1 : D} {P : D → Ow → Prop} (h : t__law_drawn { nx := fun e => lentEnd P .none e, rt := lentEnd P } [.bo cs, .im x1, .un]) : C__law_drawn cs [x1] P := CLB.of h

abbrev N__law_both_right : List Str := ["dice", "one", "far", "a", "b", "zero", "d", "p", "q", "r", "steps", "others", "joint", "shared", "m", "n", "x", "y", "step", "is_so", "told"]
/-- _law_both_right -/
def t__law_both_right : DSt :=
  (dSeq (dAsg (dCallL 0 C__law_drawn (dCons (dC (.int 9)) dNil)) (dgName 1))
  (dSeq (dAsg (dCallL 0 C__law_drawn (dCons (dC (.int 9)) dNil)) (dgName 2))
  (dSeq (dIfS (dB (dBin gEq (dCallL 0 C__law_roll (dCons (dC (.int 3)) dNil)) (dC (.int 0)))) (dSeq (dAsg (dVar 1) (dgTup 2 (dgCons (dgTup 2 (dgCons (dgName 3) (dgCons (dgName 4) dgNil))) (dgCons (dgTup 2 (dgCons (dgName 5) (dgCons (dgName 6) dgNil))) dgNil))))
  (dSeq (dPar3 7 8 9 (dCons (dBin gAdd (dC (.int 1)) (dCallL 0 C__law_roll (dCons (dC (.int 3)) dNil))) (dCons (dCallL 0 C__law_roll (dCons (dC (.int 4)) dNil)) (dCons (dBin gAdd (dC (.int 1)) (dCallL 0 C__law_roll (dCons (dC (.int 3)) dNil))) dNil))))
  (dAsg (dTup (dCons (dTup (dCons (dBin gMul (dVar 7) (dVar 3)) (dCons (dBin gAdd (dBin gMul (dVar 7) (dVar 4)) (dBin gMul (dVar 8) (dVar 6))) dNil))) (dCons (dTup (dCons (dC (.int 0)) (dCons (dBin gMul (dVar 9) (dVar 6)) dNil))) dNil))) (dgName 2)))) dPass)
  (dSeq (dAsg (dTup (dCons (dCallL 0 C__law_steps (dCons (dBin gIx (dBin gIx (dVar 1) (dC (.int 0))) (dC (.int 0))) (dCons (dBin gIx (dBin gIx (dVar 1) (dC (.int 0))) (dC (.int 1))) (dCons (dBin gIx (dBin gIx (dVar 1) (dC (.int 1))) (dC (.int 1))) dNil)))) (dCons (dCallL 0 C__law_steps (dCons (dBin gIx (dBin gIx (dVar 2) (dC (.int 0))) (dC (.int 0))) (dCons (dBin gIx (dBin gIx (dVar 2) (dC (.int 0))) (dC (.int 1))) (dCons (dBin gIx (dBin gIx (dVar 2) (dC (.int 1))) (dC (.int 1))) dNil)))) dNil))) (dgTup 2 (dgCons (dgName 10) (dgCons (dgName 11) dgNil))))
  (dSeq (dAsg (dTup (dCons (dCall C_joint_grid (dCons (dVar 10) (dCons (dVar 11) dNil))) (dCons (dCall C_shared_grid (dCons (dVar 10) (dCons (dVar 11) dNil))) dNil))) (dgTup 2 (dgCons (dgName 12) (dgCons (dgName 13) dgNil))))
  (dSeq (dPar 14 15 (dCons (dBin gMul (dBin gIx (dBin gIx (dVar 1) (dC (.int 0))) (dC (.int 0))) (dBin gIx (dBin gIx (dVar 1) (dC (.int 1))) (dC (.int 1)))) (dCons (dBin gMul (dBin gIx (dBin gIx (dVar 2) (dC (.int 0))) (dC (.int 0))) (dBin gIx (dBin gIx (dVar 2) (dC (.int 1))) (dC (.int 1)))) dNil)))
  (dSeq (dIfS (dOr (dB (dBin gNe (dCall C_grid_index (dCons (dVar 12) dNil)) (dCall C__law_index (dCons (dBin gAdd (dVar 10) (dVar 11)) dNil)))) (dOr (dB (dBin gNe (dBin gMul (dCall C_grid_index (dCons (dVar 12) dNil)) (dCall C_grid_index (dCons (dVar 13) dNil))) (dBin gMul (dVar 14) (dVar 15)))) (dB (dBin gNe (dVar 12) (dCall C_grid_pair (dCons (dBin gAdd (dVar 10) (dVar 11)) dNil)))))) (dRet (dC (.bool false))) dPass)
  (dSeq (dIfS (dOr (dB (dBin gNe (dCall C_joint_grid (dCons (dVar 11) (dCons (dVar 10) dNil))) (dVar 12))) (dOr (dB (dBin gNe (dCall C_shared_grid (dCons (dVar 11) (dCons (dVar 10) dNil))) (dVar 13))) (dOr (dB (dBin gNe (dCall C_joint_grid (dCons (dVar 10) (dCons (dVar 10) dNil))) (dCall C_grid_pair (dCons (dVar 10) dNil)))) (dB (dBin gNe (dCall C_shared_grid (dCons (dVar 11) (dCons (dVar 11) dNil))) (dCall C_grid_pair (dCons (dVar 11) dNil))))))) (dRet (dC (.bool false))) dPass)
  (dSeq (dFor (dRng2 (dCons (dUn (fun i => .int (-i)) (dC (.int 12))) (dCons (dC (.int 13)) dNil))) (dgName 16) (dFor (dRng2 (dCons (dUn (fun i => .int (-i)) (dC (.int 12))) (dCons (dC (.int 13)) dNil))) (dgName 17) (dIfS (dB (dBin gNe (dCall C__law_is_in (dCons (dTup (dCons (dVar 16) (dCons (dVar 17) dNil))) (dCons (dVar 13) dNil))) (dAndV (dCall C__law_is_in (dCons (dTup (dCons (dVar 16) (dCons (dVar 17) dNil))) (dCons (dVar 1) dNil))) (dCall C__law_is_in (dCons (dTup (dCons (dVar 16) (dCons (dVar 17) dNil))) (dCons (dVar 2) dNil)))))) (dRet (dC (.bool false))) dPass)))
  (dSeq (dIfS (dOr (dB (dBin gNe (dFrz (dComp (dItT (dBin gAdd (dVar 10) (dVar 11))) (dgName 18) (dNot (dB (dCall C_is_in_grid (dCons (dVar 12) (dCons (dVar 18) dNil))))) (dVar 18) [18])) (dLst dNil))) (dB (dBin gNe (dFrz (dComp (dItT (dVar 13)) (dgName 18) (dOr (dNot (dB (dCall C_is_in_grid (dCons (dVar 10) (dCons (dVar 18) dNil))))) (dNot (dB (dCall C_is_in_grid (dCons (dVar 11) (dCons (dVar 18) dNil)))))) (dVar 18) [18])) (dLst dNil)))) (dRet (dC (.bool false))) dPass)
  (dSeq (dAsg (dBin gEq (dFrz (dComp (dItT (dVar 11)) (dgName 18) (dNot (dB (dCall C_is_in_grid (dCons (dVar 10) (dCons (dVar 18) dNil))))) (dVar 18) [18])) (dLst dNil)) (dgName 19))
  (dSeq (dAsg (dLst (dCons (dCall C_lies_within (dCons (dVar 11) (dCons (dVar 10) dNil))) (dCons (dBin gEq (dVar 12) (dCall C_grid_pair (dCons (dVar 10) dNil))) (dCons (dBin gEq (dVar 13) (dCall C_grid_pair (dCons (dVar 11) dNil))) (dCons (dCall C_are_same (dCons (dVar 12) (dCons (dVar 10) dNil))) dNil))))) (dgName 20))
  (dSeq (dIfS (dOr (dB (dBin gNe (dVar 20) (dRep (dFLst (dCons (dVar 19) dNil)) (dC (.int 4))))) (dOr (dAnd (dTru (dVar 19)) (dB (dBin gNe (dBin gMod (dVar 15) (dVar 14)) (dC (.int 0))))) (dB (dBin gNe (dCall C_are_same (dCons (dVar 10) (dCons (dVar 11) dNil))) (dAndV (dVar 19) (dBin gEq (dVar 14) (dVar 15))))))) (dRet (dC (.bool false))) dPass)
  (dSeq (dIfS (dOr (dB (dBin gNotB (dCall C_lies_within (dCons (dVar 13) (dCons (dVar 12) dNil))) (dC (.bool true)))) (dOr (dB (dBin gNotB (dCall C_lies_within (dCons (dVar 13) (dCons (dVar 10) dNil))) (dC (.bool true)))) (dB (dBin gNotB (dCall C_lies_within (dCons (dVar 10) (dCons (dVar 12) dNil))) (dC (.bool true)))))) (dRet (dC (.bool false))) dPass)
  (dRet (dOrV (dBin gGt (dCall C__law_common (dCons (dVar 14) (dCons (dVar 15) dNil))) (dC (.int 1))) (dAndV (dBin gEq (dVar 12) (dTup (dCons (dTup (dCons (dC (.int 1)) (dCons (dC (.int 0)) dNil))) (dCons (dTup (dCons (dC (.int 0)) (dCons (dC (.int 1)) dNil))) dNil)))) (dBin gEq (dCall C_grid_index (dCons (dVar 13) dNil)) (dBin gMul (dVar 14) (dVar 15))))))))))))))))))))

abbrev C__law_both_right : C1 := CLB 1 N__law_both_right t__law_both_right

theorem u__law_both_right {cs : Ow} {P : D → Ow → Prop} (h : t__law_both_right { nx := fun e => lentEnd P .none e, rt := lentEnd P } [.bo cs, .un, .un, .un, .un, .un, .un, .un, .un, .un, .un, .un, .un, .un, .un, .un, .un, .un, .un, .un, .un]) : C__law_both_right cs [] P := CLB.of h

abbrev N__law_three_right : List Str := ["dice", "one", "far", "third", "turn", "inner", "many", "more", "a", "b", "zero", "d", "led", "other", "common", "least"]
/-- _law_three_right -/
def t__law_three_right : DSt :=
  (dSeq (dAsg (dFrz (dComp (dRng1 (dCons (dC (.int 3)) dNil)) (dgName 4) dYes (dCallL 0 C__law_drawn (dCons (dC (.int 5)) dNil)) [4])) (dgLst 3 (dgCons (dgName 1) (dgCons (dgName 2) (dgCons (dgName 3) dgNil)))))
  (dSeq (dIfS (dOr (dB (dBin gNe (dCall C_joint_grid (dCons (dCall C_joint_grid (dCons (dVar 1) (dCons (dVar 2) dNil))) (dCons (dVar 3) dNil))) (dCall C_joint_grid (dCons (dVar 1) (dCons (dCall C_joint_grid (dCons (dVar 2) (dCons (dVar 3) dNil))) dNil))))) (dB (dBin gNe (dCall C_shared_grid (dCons (dCall C_shared_grid (dCons (dVar 1) (dCons (dVar 2) dNil))) (dCons (dVar 3) dNil))) (dCall C_shared_grid (dCons (dVar 1) (dCons (dCall C_shared_grid (dCons (dVar 2) (dCons (dVar 3) dNil))) dNil)))))) (dRet (dC (.bool false))) dPass)
  (dSeq (dAsg (dCall C_shared_grid (dCons (dVar 1) (dCons (dVar 3) dNil))) (dgName 5))
  (dSeq (dIfS (dB (dBin gNe (dCall C_joint_grid (dCons (dVar 5) (dCons (dCall C_shared_grid (dCons (dVar 2) (dCons (dVar 3) dNil))) dNil))) (dCall C_shared_grid (dCons (dCall C_joint_grid (dCons (dVar 5) (dCons (dVar 2) dNil))) (dCons (dVar 3) dNil))))) (dRet (dC (.bool false))) dPass)
  (dSeq (dPar 6 7 (dCons (dBin gAdd (dC (.int 1)) (dCallL 0 C__law_roll (dCons (dC (.int 4)) dNil))) (dCons (dBin gAdd (dC (.int 1)) (dCallL 0 C__law_roll (dCons (dC (.int 4)) dNil))) dNil)))
  (dSeq (dAsg (dVar 1) (dgTup 2 (dgCons (dgTup 2 (dgCons (dgName 8) (dgCons (dgName 9) dgNil))) (dgCons (dgTup 2 (dgCons (dgName 10) (dgCons (dgName 11) dgNil))) dgNil))))
  (dSeq (dPar 12 13 (dCons (dTup (dCons (dTup (dCons (dBin gMul (dVar 6) (dVar 8)) (dCons (dBin gMul (dVar 6) (dVar 9)) dNil))) (dCons (dTup (dCons (dC (.int 0)) (dCons (dBin gMul (dVar 6) (dVar 11)) dNil))) dNil))) (dCons (dTup (dCons (dTup (dCons (dBin gMul (dVar 7) (dVar 8)) (dCons (dBin gMul (dVar 7) (dVar 9)) dNil))) (dCons (dTup (dCons (dC (.int 0)) (dCons (dBin gMul (dVar 7) (dVar 11)) dNil))) dNil))) dNil)))
  (dSeq (dAsg (dCall C__law_common (dCons (dVar 6) (dCons (dVar 7) dNil))) (dgName 14))
  (dSeq (dAsg (dBin gDiv (dBin gMul (dVar 6) (dVar 7)) (dVar 14)) (dgName 15))
  (dSeq (dIfS (dOr (dB (dBin gNe (dCall C_grid_index (dCons (dVar 12) dNil)) (dBin gMul (dBin gMul (dBin gMul (dVar 6) (dVar 6)) (dVar 8)) (dVar 11)))) (dOr (dB (dBin gNotB (dCall C_lies_within (dCons (dVar 12) (dCons (dVar 1) dNil))) (dC (.bool true)))) (dB (dBin gNe (dCall C_lies_within (dCons (dVar 1) (dCons (dVar 12) dNil))) (dBin gEq (dVar 6) (dC (.int 1))))))) (dRet (dC (.bool false))) dPass)
  (dRet (dAndV (dBin gEq (dCall C_joint_grid (dCons (dVar 12) (dCons (dVar 13) dNil))) (dCall C_grid_pair (dCons (dTup (dCons (dTup (dCons (dBin gMul (dVar 14) (dVar 8)) (dCons (dBin gMul (dVar 14) (dVar 9)) dNil))) (dCons (dTup (dCons (dC (.int 0)) (dCons (dBin gMul (dVar 14) (dVar 11)) dNil))) dNil))) dNil))) (dBin gEq (dCall C_shared_grid (dCons (dVar 12) (dCons (dVar 13) dNil))) (dCall C_grid_pair (dCons (dTup (dCons (dTup (dCons (dBin gMul (dVar 15) (dVar 8)) (dCons (dBin gMul (dVar 15) (dVar 9)) dNil))) (dCons (dTup (dCons (dC (.int 0)) (dCons (dBin gMul (dVar 15) (dVar 11)) dNil))) dNil))) dNil)))))))))))))))

abbrev C__law_three_right : C1 := CLB 1 N__law_three_right t__law_three_right

theorem u__law_three_right {cs : Ow} {P : D → Ow → Prop} (h : t__law_three_right { nx := fun e => lentEnd P .none e, rt := lentEnd P } [.bo cs, .un, .un, .un, .un, .un, .un, .un, .un, .un, .un, .un, .un, .un, .un, .un]) : C__law_three_right cs [] P := CLB.of h

abbrev N_law : List Str := ["script", "spot", "dice", "turn", "slant", "even"]
/-- law -/
def t_law : DSt :=
  (dSeq (dFor (dRng1 (dCons (dCallB gMax (dCons (dC (.int 1)) (dCons (dCallB gMin (dCons (dC (.int 2)) (dCons (dCallB gLen (dCons (dVar 0) dNil)) dNil))) dNil))) dNil)) (dgName 1) (dSeq (dAsgF (dFCall C__law_dice (dCons (dVar 0) (dCons (dVar 1) dNil))) 2)
  (dFor (dRng1 (dCons (dC (.int 3)) dNil)) (dgName 3) (dIfS (dOr (dNot (dB (dCallL 2 C__law_both_right dNil))) (dNot (dB (dCallL 2 C__law_three_right dNil)))) (dRet (dC (.bool false))) dPass))))
  (dSeq (dAsg (dTup (dCons (dTup (dCons (dTup (dCons (dC (.int 2)) (dCons (dC (.int 1)) dNil))) (dCons (dTup (dCons (dC (.int 0)) (dCons (dC (.int 3)) dNil))) (dCons (dTup (dCons (dC (.int 4)) (dCons (dC (.int 5)) dNil))) dNil)))) (dCons (dTup (dCons (dTup (dCons (dC (.int 2)) (dCons (dC (.int 0)) dNil))) (dCons (dTup (dCons (dC (.int 0)) (dCons (dC (.int 2)) dNil))) dNil))) dNil))) (dgTup 2 (dgCons (dgName 4) (dgCons (dgName 5) dgNil))))
  (dRet (dAndV (dBin gEq (dCall C_joint_grid (dCons (dVar 4) (dCons (dVar 5) dNil))) (dTup (dCons (dTup (dCons (dC (.int 2)) (dCons (dC (.int 0)) dNil))) (dCons (dTup (dCons (dC (.int 0)) (dCons (dC (.int 1)) dNil))) dNil)))) (dAndV (dBin gEq (dCall C_shared_grid (dCons (dVar 4) (dCons (dVar 5) dNil))) (dTup (dCons (dTup (dCons (dC (.int 2)) (dCons (dC (.int 4)) dNil))) (dCons (dTup (dCons (dC (.int 0)) (dCons (dC (.int 6)) dNil))) dNil)))) (dBin gIsB (dCall C_lies_within (dCons (dTup (dCons (dTup (dCons (dC (.int 4)) (dCons (dC (.int 2)) dNil))) (dCons (dTup (dCons (dC (.int 0)) (dCons (dC (.int 6)) dNil))) dNil))) (dCons (dVar 4) dNil))) (dC (.bool true))))))))

abbrev C_law : C0 := CLD 1 N_law t_law

theorem u_law {x0 : D} {P : D → Prop} (h : t_law { nx := fun _ => P .none, rt := fun d _ => P d } [.im x0, .un, .un, .un, .un, .un]) : C_law [x0] P := CLD.of h

end Nk66

namespace Nk66
open PySem PySem.Spec PyProof.Rows L2 DL
variable [Clss]
theorem sp_is_whole {x : Int} {P : D → Prop} (h : P (.bool true)) : C_is_whole [.int x] P := by
  refine u_is_whole ?_
  simp [t_is_whole, h]
theorem sp_common_divisor {x y : Int} {P : D → Prop} (h : P (.int (Int.gcd x y : Nat))) : C_common_divisor [.int x, .int y] P := by
  refine u_common_divisor ?_
  simp [t_common_divisor]
  refine while_by (fun m e => ∃ l r : Int, e = [.im (.int x), .im (.int y), .im (.int l), .im (.int r)] ∧ 0 ≤ l ∧ 0 ≤ r ∧ r.toNat = m ∧ Int.gcd l r = Int.gcd x y) ⟨_, _, _, rfl, ?_, ?_, rfl, ?_⟩ ?_
  · split <;> omega
  · split <;> omega
  · split <;> split <;> simp
  · rintro m e ⟨l, r, rfl, hl, hr, rfl, hg⟩
    simp
    split
    · next hz =>
      subst hz
      rw [← hg] at h
      simp at h
      have e : ((l.natAbs : Nat) : Int) = l := by omega
      rw [e] at h
      exact h
    · next hz =>
      have := Int.emod_lt_of_pos l (show 0 < r by omega)
      have := Int.emod_nonneg l hz
      refine ⟨by omega, _, ?_, _, _, ⟨rfl, rfl⟩, hr, ?_, rfl, ?_⟩
      · omega
      · omega
      · rw [gcd_step hl (by omega), hg]
theorem sp_law_common {x y : Int} {P : D → Prop} (h : P (.int (Int.gcd x y : Nat))) : C__law_common [.int x, .int y] P := by
  refine u__law_common ?_
  simp [t__law_common]
  refine while_by (fun m e => ∃ l r : Int, e = [.im (.int l), .im (.int r)] ∧ 0 ≤ l ∧ 0 ≤ r ∧ r.toNat = m ∧ Int.gcd l r = Int.gcd x y) ⟨_, _, _, rfl, ?_, ?_, rfl, ?_⟩ ?_
  · split <;> omega
  · split <;> omega
  · split <;> split <;> simp
  · rintro m e ⟨l, r, rfl, hl, hr, rfl, hg⟩
    simp
    split
    · next hz =>
      subst hz
      rw [← hg] at h
      simp at h
      have e : ((l.natAbs : Nat) : Int) = l := by omega
      rw [e] at h
      exact h
    · next hz =>
      have := Int.emod_lt_of_pos l (show 0 < r by omega)
      have := Int.emod_nonneg l hz
      refine ⟨by omega, _, ?_, _, _, ⟨rfl, rfl⟩, hr, ?_, rfl, ?_⟩
      · omega
      · omega
      · rw [gcd_step hl (by omega), hg]
theorem sp_makers_in {a b : Int} {P : D → Prop} (ha : 0 < a) (hb : 0 < b) (h1 : Bd 101 a) (h2 : Bd 101 b)
    (h : ∀ x y : Int, x * a + y * b = (Int.gcd a b : Nat) → Bd 101 x → Bd 101 y → P (.tuple [.int x, .int y])) : C_makers_in [.int a, .int b] P := by
  refine u_makers_in ?_
  simp [t_makers_in]
  refine while_by (fun m e => ∃ (l r u1 u2 v1 v2 : Int) (z : Sl), e = [.im (.int a), .im (.int b), .im (.tuple [.int u1, .int u2]), .im (.tuple [.int v1, .int v2]), .im (.int l), .im (.int r), z] ∧ r.toNat = m ∧ MkI a b l r u1 u2 v1 v2) ⟨_, a, b, 1, 0, 0, 1, _, rfl, rfl, ⟨ha, by omega, rfl, by omega, by omega, ⟨.inl ⟨by omega, by omega, by omega⟩⟩, ⟨.inr ⟨by omega, by omega, by omega⟩⟩, bd1, bd0, h1, h2⟩⟩ ?_
  rintro m e ⟨l, r, u1, u2, v1, v2, z, rfl, rfl, I⟩
  simp
  split
  · next hz =>
    subst hz
    simp [I.hl]
    refine h u1 u2 ?_ I.B1 I.B2
    rw [I.i1, ← I.hg]
    have := I.hl
    simp
    omega
  · next hz =>
    have hr := I.hr
    have hz : 0 < r := by omega
    have J := I.step h1 h2 hz
    have bt := I.bt hz
    have ml := MkI.lt (Int.le_of_lt I.hl) hz
    refine ⟨divB hz I.B4 (by omega), mulB bt I.B4 (by omega) (by omega), mulB bt J.B1 (by omega) (by omega), mulB bt J.B2 (by omega) (by omega), _, ?_, _, _, _, _, _, _, ⟨⟨rfl, rfl⟩, ⟨rfl, rfl⟩, rfl, rfl⟩, rfl, J⟩
    omega
theorem sp_roll {cs : Ow} {t : Int} {P : D → Ow → Prop} (hd : Dice cs) (ht : 0 < t) (hb : t ≤ 10 ^ 12) (h : ∀ (r : Int) cs', 0 ≤ r → r < t → Dice cs' → P (.int r) cs') : C__law_roll cs [.int t] P := by
  obtain ⟨g, s, rfl, g0, g1, s0, s1⟩ := hd
  have tb : Bd 101 t := bdI (by omega)
  refine u__law_roll ?_
  simp [t__law_roll]
  by_cases c : 0 < g
  · rw [if_pos c]
    refine ⟨ht, divB ht tb (by omega), h _ _ (Int.emod_nonneg _ (by omega)) (Int.emod_lt_of_pos _ ht) ⟨_, _, rfl, Int.ediv_nonneg g0 (by omega), ?_, s0, s1⟩⟩
    have := Int.ediv_le_self t g0
    omega
  · rw [if_neg c]
    have m1 := Int.emod_lt_of_pos (s * 6364136223846793005 + 1442695040888963407) (show (0 : Int) < 18446744073709551616 by decide)
    have m2 := Int.emod_nonneg (s * 6364136223846793005 + 1442695040888963407) (show (18446744073709551616 : Int) ≠ 0 by decide)
    refine ⟨mulB (bd_s s0 s1) (k := 64) (m := 101) (by unfold Bd; decide) (by omega) (by omega), divB (k := 101) (by decide) (by unfold Bd; decide) (by omega), ht, h _ _ (Int.emod_nonneg _ (by omega)) (Int.emod_lt_of_pos _ ht) ⟨_, _, rfl, g0, g1, m2, by omega⟩⟩
theorem sp_dice {ns : List Int} {s : Nat} {P : Ow → Prop} (hs : s ≤ 1) (h : ∀ cs, Dice cs → P cs) : C__law_dice [scriptOf ns, .int s] P := by
  refine u__law_dice ?_
  unfold t__law_dice scriptOf
  simp
  have p1 : CPow 10 16 := ⟨by decide, by decide, by decide⟩
  have p2 : CPow 10 55 := ⟨by decide, by decide, by decide⟩
  have m1 : CMulW 10000000000000000000000000000000000000000000000000000000 10000000000000000000000000000000000000000000000000000000 := mulB (k := 200) (m := 200) (by unfold Bd; decide) (by unfold Bd; decide) (by omega) (by omega)
  have m2 : CMulW 7919 (s : Int) := mulB (k := 101) (m := 101) (bdI (by decide)) (bdN (by omega)) (by omega) (by omega)
  have m3 : CMulW 131 (s : Int) := mulB (k := 101) (m := 101) (bdI (by decide)) (bdN (by omega)) (by omega) (by omega)
  have m4 : ∀ x : Int, CMulW 31 (if x < 0 then 1 else 0) := fun x => mulB (k := 101) (m := 101) (bdI (by decide)) (bdI (by split <;> decide)) (by omega) (by omega)
  split
  · next c =>
    have e : (List.map PyData.int ns)[s]? = some (PyData.int ns[s]) := by
      rw [List.getElem?_map, List.getElem?_eq_getElem c]; rfl
    rw [atI_nat e]
    simp
    exact ⟨p1, p2, m1, m2, m4 _, h _ (dice_ok _ _)⟩
  · exact ⟨m3, p1, p2, m1, m2, m4 _, h _ (dice_ok _ _)⟩
theorem sp_is_within {x l m : Int} {P : D → Prop} (h1 : l ≤ x) (h2 : x ≤ m) (h : P (.bool true)) : C_is_within [.int x, .int l, .int m] P := by
  refine u_is_within ?_
  simp [t_is_within]
  refine sp_is_whole ?_
  simp [h1, h2, h]
theorem sp_is_pair {x y : Int} {P : D → Prop} (h : P (.bool true)) : C_is_pair [.tuple [.int x, .int y]] P := by
  refine u_is_pair ?_
  simp [t_is_pair, h]
theorem sp_is_point_in {x y : Int} {P : D → Prop} (x1 : -1000 ≤ x) (x2 : x ≤ 1000) (y1 : -1000 ≤ y) (y2 : y ≤ 1000) (h : P (.bool true)) : C_is_point_in [.tuple [.int x, .int y]] P := by
  refine u_is_point_in ?_
  simp [t_is_point_in]
  refine sp_is_pair ?_
  simp
  refine comp_runT (ds := [.int x, .int y]) (e1 := [.im (.tuple [.int x, .int y]), .un]) (fun Q z => by simpa using z) ?_
  rw [runC_cons]
  simp
  refine sp_is_within x1 x2 ?_
  refine ⟨sz (by decide), ?_⟩
  rw [runC_cons]
  simp
  refine sp_is_within y1 y2 ?_
  refine ⟨sz (by decide), ?_⟩
  rw [runC_nil]
  simp [h]
theorem sp_is_step_in {x y : Int} {P : D → Prop} (x1 : -2000 ≤ x) (x2 : x ≤ 2000) (y1 : -2000 ≤ y) (y2 : y ≤ 2000) (h : P (.bool true)) : C_is_step_in [.tuple [.int x, .int y]] P := by
  refine u_is_step_in ?_
  simp [t_is_step_in]
  refine sp_is_pair ?_
  simp
  refine comp_runT (ds := [.int x, .int y]) (e1 := [.im (.tuple [.int x, .int y]), .un]) (fun Q z => by simpa using z) ?_
  rw [runC_cons]
  simp
  refine sp_is_within x1 x2 ?_
  refine ⟨sz (by decide), ?_⟩
  rw [runC_cons]
  simp
  refine sp_is_within y1 y2 ?_
  refine ⟨sz (by decide), ?_⟩
  rw [runC_nil]
  simp [h]
end Nk66

namespace Nk66
open PySem PySem.Spec PyProof.Rows L2 DL
variable [Clss]
def iv (bs : List Int) : D := .tuple (bs.map PyData.int)
def les (m : Int) (xs ys : List Int) : List Int := List.zipWith (fun x y => x - m * y) xs ys
theorem sp_less {xs ys : List Int} {m : Int} {P : D → Prop} (hl : xs.length = ys.length) (hz : xs.length ≤ 900) (hm : ∀ y ∈ ys, CMulW m y) (h : P (iv (les m xs ys))) : C_less [iv xs, iv ys, .int m] P := by
  refine u_less ?_
  simp [t_less, iv]
  refine comp_zipT (xs := xs.map PyData.int) (ys := ys.map PyData.int) (e1 := [.im (.tuple (xs.map PyData.int)), .im (.tuple (ys.map PyData.int)), .im (.int m), .un, .un]) (fun S h => by simpa using h)
    (fun i acc e => acc = ((les m xs ys).take i).map PyData.int ∧ e = [.im (.tuple (xs.map PyData.int)), .im (.tuple (ys.map PyData.int)), .im (.int m), .un, .un]) (by simp) ?_ ?_
  · rintro i x y acc e2 h1 h2 ⟨rfl, rfl⟩
    obtain ⟨a, ha, rfl⟩ := map_get h1
    obtain ⟨b, hb, rfl⟩ := map_get h2
    have hi : (les m xs ys)[i]? = some (a - m * b) := by
      unfold les
      rw [List.getElem?_zipWith, ha, hb]
    have hlen : (les m xs ys).length = xs.length := by unfold les; rw [List.length_zipWith]; omega
    rw [take_S hi]
    simp
    refine ⟨hm b (mem_get hb), sz (by omega)⟩
  · rintro acc e2 ⟨rfl, rfl⟩
    have hlen : (les m xs ys).length = xs.length := by unfold les; rw [List.length_zipWith]; omega
    have et : (les m xs ys).take (min (xs.map PyData.int).length (ys.map PyData.int).length) = les m xs ys := List.take_of_length_le (by rw [List.length_map, List.length_map]; omega)
    rw [et]
    simp
    exact h
theorem iv2 {x y : Int} : (.tuple [.int x, .int y] : D) = iv [x, y] := rfl
theorem sp_less2 {x y x' y' m : Int} {P : D → Prop} (h1 : CMulW m x') (h2 : CMulW m y') (h : P (.tuple [.int (x - m * x'), .int (y - m * y')])) : C_less [.tuple [.int x, .int y], .tuple [.int x', .int y'], .int m] P :=
  sp_less (xs := [x, y]) (ys := [x', y']) rfl (by show 2 ≤ 900; omega) (by
    intro z hz
    simp at hz
    rcases hz with rfl | rfl
    · exact h1
    · exact h2) h
theorem sp_opposites {xs : List Int} {P : D → Prop} (hz : xs.length ≤ 900) (h : P (iv (xs.map fun x => -x))) : C_opposites_of [iv xs] P := by
  refine u_opposites_of ?_
  simp [t_opposites_of, iv]
  refine comp_tup (ds := xs.map PyData.int) (e1 := [.im (.tuple (xs.map PyData.int)), .un]) (fun S h => by simpa using h)
    (fun i acc e => acc = ((xs.map fun x => -x).take i).map PyData.int ∧ e = [.im (.tuple (xs.map PyData.int)), .un]) (by simp) ?_ ?_
  · rintro i x acc e2 h1 ⟨rfl, rfl⟩
    obtain ⟨a, ha, rfl⟩ := map_get h1
    have hi : (xs.map fun x => -x)[i]? = some (-a) := by rw [List.getElem?_map, ha]; rfl
    have hlt := (List.getElem?_eq_some_iff.mp ha).1
    rw [take_S hi]
    simp
    exact sz (by omega)
  · rintro acc e2 ⟨rfl, rfl⟩
    have et : (xs.map fun x => -x).take (xs.map PyData.int).length = xs.map fun x => -x := List.take_of_length_le (by rw [List.length_map, List.length_map]; omega)
    rw [et]
    have e2 : iv (xs.map fun x => -x) = .tuple ((xs.map fun x => -x).map PyData.int) := rfl
    rw [e2] at h
    simp at h ⊢
    exact h
/-- the state of a pair of steps -/
def stO (bL bT : List Int) (lx ly tx ty : Int) : Ow := .obj (Clss.adr "Pair") [some (iv bL), some (iv bT), some (.tuple [.int lx, .int ly]), some (.tuple [.int tx, .int ty])]
/-- all of them small -/
def Sm (K : Nat) (bs : List Int) : Prop := ∀ x ∈ bs, x.natAbs ≤ K
def CrL (K : Nat) (p q : Int) (bs bl : List Int) : Prop := ∀ (i : Nat) (x y : Int), bs[i]? = some x → bl[i]? = some y → Cr K p q x y
theorem les_len {m : Int} {xs ys : List Int} (h : xs.length = ys.length) : (les m xs ys).length = xs.length := by unfold les; rw [List.length_zipWith]; omega
theorem les_get {m : Int} {xs ys : List Int} {i : Nat} {z : Int} (h : (les m xs ys)[i]? = some z) : ∃ x y, xs[i]? = some x ∧ ys[i]? = some y ∧ z = x - m * y := by
  unfold les at h
  rw [List.getElem?_zipWith] at h
  split at h
  · rename_i x y h1 h2
    exact ⟨x, y, h1, h2, (Option.some.inj h).symm⟩
  · cases h
theorem CrL.step {K : Nat} {p q : Int} {bs bl : List Int} (h : CrL K p q bs bl) (hl : bs.length = bl.length) (hq : q ≠ 0) : CrL K q (p - p.fdiv q * q) bl (les (p.fdiv q) bs bl) ∧ Sm K (les (p.fdiv q) bs bl) := by
  constructor
  · intro i x y h1 h2
    obtain ⟨a, c, e1, e2, rfl⟩ := les_get h2
    rw [h1] at e2
    cases e2
    exact ((h i a x e1 h1).step hq).1
  · intro z hz
    obtain ⟨i, hi, rfl⟩ := List.mem_iff_getElem.mp hz
    obtain ⟨a, c, e1, e2, e3⟩ := les_get (List.getElem?_eq_getElem hi)
    rw [e3]
    exact ((h i a c e1 e2).step hq).2
theorem CrL.lo {K : Nat} {p q : Int} {bs bl : List Int} (h : CrL K p q bs bl) (hl : bs.length = bl.length) (hp : p ≠ 0) : Sm K bl := by
  intro z hz
  obtain ⟨i, hi, rfl⟩ := List.mem_iff_getElem.mp hz
  exact (h i bs[i] bl[i] (List.getElem?_eq_getElem (by omega)) (List.getElem?_eq_getElem hi)).lo hp
end Nk66

namespace Nk66
open PySem PySem.Spec PyProof.Rows L2 DL
variable [Clss]
theorem lt_of_le2 {x : Int} {k m : Nat} (h : x.natAbs ≤ 2 ^ k) (hm : k < m) : Bd m x := Nat.lt_of_le_of_lt h (Nat.pow_lt_pow_right (by decide) hm)
theorem fdiv_bd {p q : Int} {k : Nat} (hq : q ≠ 0) (h1 : Bd k p) (h2 : Bd k q) : Bd (k + 1) (p.fdiv q) := by
  obtain ⟨f1, _, _⟩ := fdiv_facts (p := p) hq
  have e : (p.fdiv q).natAbs * 1 ≤ (p.fdiv q).natAbs * q.natAbs := Nat.mul_le_mul_left _ (by omega)
  have e2 : (p.fdiv q * q).natAbs = (p.fdiv q).natAbs * q.natAbs := Int.natAbs_mul _ _
  unfold Bd at *
  rw [Nat.pow_succ]
  omega
structure L1 (G : Int → Int → Prop) (n Y B : Nat) (bT : List Int) (ty : Int) (m : Nat) (e : DL.Env) (sx sy lx ly : Int) (bs bL : List Int) (z : Sl) : Prop where
  he : e = [.bo (stO bL bT lx ly 0 ty), .im (.tuple [.int sx, .int sy]), .im (iv bs), z]
  tri : ∀ x y, Tri sx sy lx ly ty x y ↔ G x y
  n1 : bs.length = n
  n2 : bL.length = n
  hlx : Bd 11 lx
  alt : (sx = 0 ∧ m = 0 ∧ sy.natAbs ≤ 2 ^ (Y + 13) ∧ ly.natAbs ≤ 2 ^ (Y + 13) ∧ Sm (2 ^ (B + 13)) bs ∧ Sm (2 ^ (B + 13)) bL) ∨
    (sx ≠ 0 ∧ m = lx.natAbs + 1 ∧ Bd 11 sx ∧ Cr (2 ^ (Y + 13)) sx lx sy ly ∧ CrL (2 ^ (B + 13)) sx lx bs bL ∧ (lx = 0 → sy.natAbs ≤ 2 ^ (Y + 13) ∧ ly.natAbs ≤ 2 ^ (Y + 13) ∧ Sm (2 ^ (B + 13)) bs ∧ Sm (2 ^ (B + 13)) bL))
def L1V (G : Int → Int → Prop) (n Y B : Nat) (bT : List Int) (ty : Int) (m : Nat) (e : DL.Env) : Prop := ∃ sx sy lx ly bs bL z, L1 G n Y B bT ty m e sx sy lx ly bs bL z
structure L2' (G : Int → Int → Prop) (n Y B : Nat) (bL : List Int) (lx ly : Int) (m : Nat) (e : DL.Env) (sy ty : Int) (bs bT : List Int) (z : Sl) : Prop where
  he : e = [.bo (stO bL bT lx ly 0 ty), .im (.tuple [.int 0, .int sy]), .im (iv bs), z]
  tri : ∀ x y, Tri 0 sy lx ly ty x y ↔ G x y
  n1 : bs.length = n
  n2 : bT.length = n
  hty : Bd Y ty
  alt : (sy = 0 ∧ m = 0 ∧ Sm (2 ^ (B + Y + 2)) bs ∧ Sm (2 ^ (B + Y + 2)) bT) ∨
    (sy ≠ 0 ∧ m = ty.natAbs + 1 ∧ Bd Y sy ∧ CrL (2 ^ (B + Y + 2)) sy ty bs bT ∧ (ty = 0 → Sm (2 ^ (B + Y + 2)) bs ∧ Sm (2 ^ (B + Y + 2)) bT))
def L2V (G : Int → Int → Prop) (n Y B : Nat) (bL : List Int) (lx ly : Int) (m : Nat) (e : DL.Env) : Prop := ∃ sy ty bs bT z, L2' G n Y B bL lx ly m e sy ty bs bT z
/-- small numbers in a list -/
def SB (k : Nat) (bs : List Int) : Prop := ∀ x ∈ bs, Bd k x
theorem SB.sm {k m : Nat} {bs : List Int} (h : SB k bs) (hm : k ≤ m) : Sm (2 ^ m) bs := fun x hx => Nat.le_of_lt (Nat.lt_of_lt_of_le (h x hx) (Nat.pow_le_pow_right (by decide) hm))
theorem Sm.sb {k m : Nat} {bs : List Int} (h : Sm (2 ^ k) bs) (hm : k < m) : SB m bs := fun x hx => lt_of_le2 (h x hx) hm
theorem CrL.start {k b : Nat} {p q : Int} {bs bl : List Int} (hp : Bd k p) (hq : Bd k q) (h1 : SB b bs) (h2 : SB b bl) : CrL (2 ^ (b + k + 2)) p q bs bl := fun i x y e1 e2 => Cr.start hp hq (h1 x (mem_get e1)) (h2 y (mem_get e2))
structure Tk (G : Int → Int → Prop) (n Y B : Nat) (bL bT : List Int) (lx ly ty : Int) : Prop where
  eq : ∀ x y, InH lx ly ty x y ↔ G x y
  n1 : bL.length = n
  n2 : bT.length = n
  hx : Bd 11 lx
  hy : Bd Y ly
  ht : Bd Y ty
  sL : SB B bL
  sT : SB B bT
theorem sp_take {n Y B : Nat} {bL bT bs : List Int} {lx ly ty sx sy : Int} {P : D → Ow → Prop} (hn : n ≤ 900) (n0 : bs.length = n) (n1 : bL.length = n) (n2 : bT.length = n) (hY : Y + B ≤ 8000) (hY1 : 11 ≤ Y) (x1 : Bd 11 sx) (x2 : Bd 11 lx) (y1 : Bd Y sy) (y2 : Bd Y ly) (y3 : Bd Y ty) (s0 : SB B bs) (s1 : SB B bL) (s2 : SB B bT)
    (h : ∀ bL' bT' lx' ly' ty', Tk (Tri sx sy lx ly ty) n (Y + 14) (B + Y + 31) bL' bT' lx' ly' ty' → P .none (stO bL' bT' lx' ly' 0 ty')) : C_Pair_take (stO bL bT lx ly 0 ty) [.tuple [.int sx, .int sy], iv bs] P := by
  refine u_Pair_take ?_
  unfold t_Pair_take
  rw [s_seq]
  refine while_by (L1V (Tri sx sy lx ly ty) n Y B bT ty) ?_ ?_
  · by_cases c : sx = 0
    · refine ⟨0, sx, sy, lx, ly, bs, bL, _, rfl, fun x y => Iff.rfl, n0, n1, x2, .inl ⟨c, rfl, ?_, ?_, s0.sm (by omega), s1.sm (by omega)⟩⟩
      · exact Nat.le_of_lt (y1.mono (by omega))
      · exact Nat.le_of_lt (y2.mono (by omega))
    · refine ⟨_, sx, sy, lx, ly, bs, bL, _, rfl, fun x y => Iff.rfl, n0, n1, x2, .inr ⟨c, rfl, x1, Cr.start x1 x2 y1 y2, CrL.start x1 x2 s0 s1, fun _ => ⟨Nat.le_of_lt (y1.mono (by omega)), Nat.le_of_lt (y2.mono (by omega)), s0.sm (by omega), s1.sm (by omega)⟩⟩⟩
  rintro m e ⟨sx', sy', lx', ly', bs', bL', z, rfl, tri, m1, m2, hlx, alt⟩
  unfold stO
  simp
  by_cases c : sx' = 0
  · rw [if_pos c]
    subst c
    rcases alt with ⟨_, _, a1, a2, a3, a4⟩ | ⟨a0, _⟩
    · have y1' : Bd (Y + 14) sy' := lt_of_le2 a1 (by omega)
      have y2' : Bd (Y + 14) ly' := lt_of_le2 a2 (by omega)
      have s0' : SB (B + 14) bs' := a3.sb (by omega)
      have s1' : SB (B + 14) bL' := a4.sb (by omega)
      have s2' : SB (B + 14) bT := fun x hx => (s2 x hx).mono (by omega)
      have y3' : Bd (Y + 14) ty := y3.mono (by omega)
      refine while_by (L2V (Tri sx sy lx ly ty) n (Y + 14) (B + 14) bL' lx' ly') ?_ ?_
      · by_cases c : sy' = 0
        · exact ⟨0, sy', ty, bs', bT, _, rfl, tri, m1, n2, y3', .inl ⟨c, rfl, s0'.sm (by omega), s2'.sm (by omega)⟩⟩
        · refine ⟨_, sy', ty, bs', bT, _, rfl, tri, m1, n2, y3', .inr ⟨c, rfl, y1', ?_, fun _ => ⟨s0'.sm (by omega), s2'.sm (by omega)⟩⟩⟩
          exact CrL.start y1' y3' s0' s2'
      rintro m e ⟨sy2, ty2, bs2, bT2, z2, rfl, tri2, k1, k2, hty, alt2⟩
      unfold stO
      simp
      by_cases c2 : sy2 = 0
      · rw [if_pos c2]
        subst c2
        rcases alt2 with ⟨_, _, b1, b2⟩ | ⟨b0, _⟩
        · exact h bL' bT2 lx' ly' ty2 ⟨fun x y => tri_end.symm.trans (tri2 x y), m2, k2, hlx, y2', hty, fun x hx => (s1' x hx).mono (by omega), b2.sb (by omega)⟩
        · exact absurd rfl b0
      · rw [if_neg c2]
        rcases alt2 with ⟨b0, _⟩ | ⟨_, hm, b1, b2, b3⟩
        · exact absurd b0 c2
        by_cases c3 : ty2 = 0
        · rw [if_pos c3]
          subst c3
          obtain ⟨b4, b5⟩ := b3 rfl
          rw [if_neg c2]
          refine ⟨0, by omega, 0, sy2, bT2, bs2, _, rfl, fun x y => tri_swap2.trans (tri2 x y), k2, k1, b1, .inl ⟨rfl, rfl, b5, b4⟩⟩
        · rw [if_neg c3]
          have fb := fdiv_bd c3 b1 hty
          obtain ⟨st1, st2⟩ := b2.step (by omega) c3
          obtain ⟨f1, _, _⟩ := fdiv_facts (p := sy2) c3
          have lo := b2.lo (by omega) c2
          have cm : ∀ y : Int, y.natAbs ≤ 2 ^ (B + 14 + (Y + 14) + 2) → CMulW (sy2.fdiv ty2) y := fun y hy => mulB fb (lt_of_le2 hy (Nat.lt_succ_self _)) (by omega) (by omega)
          refine ⟨divG c3 hty (by omega) (by omega), sp_less2 (mulB fb (show Bd 1 0 by unfold Bd; decide) (by omega) (by omega)) (mulB fb hty (by omega) (by omega)) ?_⟩
          refine sp_less (by omega) (by omega) (fun y hy => cm y (lo y hy)) ?_
          simp
          have e0 : (0 : Int) - sy2.fdiv ty2 * 0 = 0 := by simp
          by_cases c4 : sy2 - sy2.fdiv ty2 * ty2 = 0
          · rw [if_pos c4]
            refine ⟨0, by omega, sy2 - sy2.fdiv ty2 * ty2, ty2, les (sy2.fdiv ty2) bs2 bT2, bT2, _, by simp [stO]; rfl, fun x y => tri_sub2.trans (tri2 x y), by rw [les_len (by omega)]; exact k1, k2, hty, .inl ⟨c4, rfl, st2, lo⟩⟩
          · rw [if_neg c4]
            refine ⟨_, ?_, ty2, sy2 - sy2.fdiv ty2 * ty2, bT2, les (sy2.fdiv ty2) bs2 bT2, _, by simp [stO]; rfl, fun x y => (tri_swap2.trans tri_sub2).trans (tri2 x y), k2, by rw [les_len (by omega)]; exact k1, ?_, .inr ⟨c3, rfl, hty, st1, fun z => absurd z c4⟩⟩
            · omega
            · exact Nat.lt_trans f1 hty
    · exact absurd rfl a0
  · rw [if_neg c]
    rcases alt with ⟨a0, _⟩ | ⟨_, hm, a1, a2, a3, a4⟩
    · exact absurd a0 c
    by_cases c3 : lx' = 0
    · rw [if_pos c3]
      subst c3
      obtain ⟨b4, b5, b6, b7⟩ := a4 rfl
      exact ⟨0, by omega, 0, ly', sx', sy', bL', bs', _, rfl, fun x y => tri_swap.trans (tri x y), m2, m1, a1, .inl ⟨rfl, rfl, b5, b4, b7, b6⟩⟩
    · rw [if_neg c3]
      have fb := fdiv_bd c3 a1 hlx
      obtain ⟨st1, st2⟩ := a3.step (by omega) c3
      obtain ⟨st3, st4⟩ := a2.step c3
      obtain ⟨f1, _, _⟩ := fdiv_facts (p := sx') c3
      have lo := a3.lo (by omega) c
      have loy := a2.lo c
      have cm : ∀ (k : Nat) (y : Int), y.natAbs ≤ 2 ^ k → k ≤ 8500 → CMulW (sx'.fdiv lx') y := fun k y hy hk => mulB fb (lt_of_le2 hy (Nat.lt_succ_self _)) (by omega) (by omega)
      refine ⟨divG c3 hlx (by omega) (by omega), sp_less2 (mulB fb hlx (by omega) (by omega)) (cm _ _ loy (by omega)) ?_⟩
      refine sp_less (by omega) (by omega) (fun y hy => cm _ y (lo y hy) (by omega)) ?_
      simp
      by_cases c4 : sx' - sx'.fdiv lx' * lx' = 0
      · rw [if_pos c4]
        exact ⟨0, by omega, sx' - sx'.fdiv lx' * lx', sy' - sx'.fdiv lx' * ly', lx', ly', les (sx'.fdiv lx') bs' bL', bL', _, rfl, fun x y => tri_sub.trans (tri x y), by rw [les_len (by omega)]; exact m1, m2, hlx, .inl ⟨c4, rfl, st4, loy, st2, lo⟩⟩
      · rw [if_neg c4]
        refine ⟨_, ?_, lx', ly', sx' - sx'.fdiv lx' * lx', sy' - sx'.fdiv lx' * ly', bL', les (sx'.fdiv lx') bs' bL', _, rfl, fun x y => (tri_swap.trans tri_sub).trans (tri x y), m2, by rw [les_len (by omega)]; exact m1, ?_, .inr ⟨c3, rfl, hlx, st3, st1, fun z => absurd z c4⟩⟩
        · omega
        · exact Nat.lt_trans f1 hlx
end Nk66

namespace Nk66
open PySem PySem.Spec PyProof.Rows L2 DL
variable [Clss]
theorem inH_neg1 {a b d x y : Int} : InH (-a) (-b) d x y ↔ InH a b d x y := by
  constructor
  · rintro ⟨i, j, e1, e2⟩; exact ⟨-i, j, by rw [e1]; grind, by rw [e2]; grind⟩
  · rintro ⟨i, j, e1, e2⟩; exact ⟨-i, j, by rw [e1]; grind, by rw [e2]; grind⟩
theorem inH_neg2 {a b d x y : Int} : InH a b (-d) x y ↔ InH a b d x y := by
  constructor
  · rintro ⟨i, j, e1, e2⟩; exact ⟨i, -j, by omega, by rw [e2]; grind⟩
  · rintro ⟨i, j, e1, e2⟩; exact ⟨i, -j, by omega, by rw [e2]; grind⟩
theorem inH_red {a b d m x y : Int} : InH a (b - m * d) d x y ↔ InH a b d x y := by
  constructor
  · rintro ⟨i, j, e1, e2⟩; exact ⟨i, j - i * m, by omega, by rw [e2]; grind⟩
  · rintro ⟨i, j, e1, e2⟩; exact ⟨i, j + i * m, by omega, by rw [e2]; grind⟩
/-- a settled pair of steps -/
structure Se (G : Int → Int → Prop) (n : Nat) (bL bT : List Int) (a b d : Int) : Prop where
  hn : Hn G a b d
  n1 : bL.length = n
  n2 : bT.length = n
  a1 : a < 2048
  sL : SB 8200 bL
  sT : SB 8200 bT
theorem ediv_bd {p q : Int} {k : Nat} (hq : 0 < q) (h1 : Bd k p) : Bd (k + 1) (p / q) := by
  rcases Int.lt_or_le p 0 with z | z
  · have e := Int.le_ediv_of_mul_le (a := p) (b := p) hq (by have : p * q ≤ p * 1 := Int.mul_le_mul_of_nonpos_left (by omega) (by omega); omega)
    have f : p / q < 0 := Int.ediv_neg_of_neg_of_pos z hq
    exact (h1.le (by omega)).mono (by omega)
  · have f := Int.ediv_nonneg z (Int.le_of_lt hq)
    have g := Int.ediv_le_self q z
    exact (h1.le (by omega)).mono (by omega)
theorem sb_neg {k : Nat} {bs : List Int} (h : SB k bs) : SB k (bs.map fun x => -x) := fun x hx => by
  rw [List.mem_map] at hx
  obtain ⟨y, hy, rfl⟩ := hx
  exact (h y hy).neg
theorem sb_les {k m : Nat} {c : Int} {bs cs : List Int} (h1 : SB k bs) (h2 : SB k cs) (hc : Bd m c) : SB (k + (m + k) + 1) (les c bs cs) := fun z hz => by
  obtain ⟨i, hi, rfl⟩ := List.mem_iff_getElem.mp hz
  obtain ⟨x, y, e1, e2, e3⟩ := les_get (List.getElem?_eq_getElem hi)
  rw [e3]
  exact (h1 x (mem_get e1)).sub (hc.mul (h2 y (mem_get e2)))
theorem settle_tail {G : Int → Int → Prop} {n Y B : Nat} {bL bT : List Int} {lx ly ty : Int} {z : Sl} {P : D → Ow → Prop} (hn : n ≤ 900) (hY : Y + B + B ≤ 8000) (a0 : 0 < lx) (d0 : 0 < ty) (h : Tk G n Y B bL bT lx ly ty) (hP : ∀ bL' b d a, Se G n bL' bT a b d → P .none (stO bL' bT a b 0 d)) :
    (dSeq (dAsg (dBin gDiv (dBin gIx (dFldO (Clss.adr "Pair") 0 2) (dC (.int 1))) (dBin gIx (dFldO (Clss.adr "Pair") 0 3) (dC (.int 1)))) (dgName 1))
  (dSeq (dAsg (dCall C_less (dCons (dFldO (Clss.adr "Pair") 0 2) (dCons (dFldO (Clss.adr "Pair") 0 3) (dCons (dVar 1) dNil)))) (dgFld (Clss.adr "Pair") 0 2))
  (dAsg (dCall C_less (dCons (dFldO (Clss.adr "Pair") 0 0) (dCons (dFldO (Clss.adr "Pair") 0 1) (dCons (dVar 1) dNil)))) (dgFld (Clss.adr "Pair") 0 0)))) { nx := fun e => lentEnd P .none e, rt := lentEnd P } [.bo (stO bL bT lx ly 0 ty), z] := by
  unfold stO
  simp
  have fb := ediv_bd d0 h.hy
  refine ⟨divB d0 h.ht (by omega), sp_less2 (mulB fb (show Bd 1 0 by unfold Bd; decide) (by omega) (by omega)) (mulB fb h.ht (by omega) (by omega)) ?_⟩
  refine sp_less (by rw [h.n1, h.n2]) (by rw [h.n1]; omega) (fun y hy => mulB fb (h.sT y hy) (by omega) (by omega)) ?_
  have e0 : lx - ly / ty * 0 = lx := by simp
  obtain ⟨f1, f2, _⟩ := div_facts (p := ly) d0
  have := h.hx
  unfold Bd at this
  have hS : Se G n (les (ly / ty) bL bT) bT lx (ly - ly / ty * ty) ty := ⟨⟨a0, d0, f1, f2, fun x y => (h.eq x y).symm.trans inH_red.symm⟩, by rw [les_len (by rw [h.n1, h.n2])]; exact h.n1, h.n2, by omega, fun x hx => ((sb_les h.sL h.sT fb) x hx).mono (by omega), fun x hx => (h.sT x hx).mono (by omega)⟩
  have := hP _ _ _ _ hS
  unfold stO at this
  simp
  exact this
abbrev sTail : DSt := (dSeq (dAsg (dBin gDiv (dBin gIx (dFldO (Clss.adr "Pair") 0 2) (dC (.int 1))) (dBin gIx (dFldO (Clss.adr "Pair") 0 3) (dC (.int 1)))) (dgName 1))
  (dSeq (dAsg (dCall C_less (dCons (dFldO (Clss.adr "Pair") 0 2) (dCons (dFldO (Clss.adr "Pair") 0 3) (dCons (dVar 1) dNil)))) (dgFld (Clss.adr "Pair") 0 2))
  (dAsg (dCall C_less (dCons (dFldO (Clss.adr "Pair") 0 0) (dCons (dFldO (Clss.adr "Pair") 0 1) (dCons (dVar 1) dNil)))) (dgFld (Clss.adr "Pair") 0 0))))
theorem m10' : CMulW 1 0 := mulB (k := 1) (m := 1) (by unfold Bd; decide) (by unfold Bd; decide) (by omega) (by omega)
theorem m1' {Y : Nat} {x : Int} (h : Bd Y x) (hY : Y ≤ 8000) : CMulW 1 x := mulB (k := 1) (by unfold Bd; decide) h (by omega) (by omega)
theorem settle_second {G : Int → Int → Prop} {n Y B : Nat} {bL bT : List Int} {lx ly ty : Int} {P : D → Ow → Prop} (hn : n ≤ 900) (hY : Y + B + B ≤ 8000) (l0 : 0 < lx) (d0 : ty ≠ 0) (h : Tk G n Y B bL bT lx ly ty) (hP : ∀ bL' bT' b d a, Se G n bL' bT' a b d → P .none (stO bL' bT' a b 0 d)) : (dSeq (dIfS (dB (dBin gLt (dBin gIx (dFldO (Clss.adr "Pair") 0 3) (dC (.int 1))) (dC (.int 0)))) (dAsg (dTup (dCons (dCall C_less (dCons (dTup (dCons (dC (.int 0)) (dCons (dC (.int 0)) dNil))) (dCons (dFldO (Clss.adr "Pair") 0 3) (dCons (dC (.int 1)) dNil)))) (dCons (dCall C_opposites_of (dCons (dFldO (Clss.adr "Pair") 0 1) dNil)) dNil))) (dgTup 2 (dgCons (dgFld (Clss.adr "Pair") 0 3) (dgCons (dgFld (Clss.adr "Pair") 0 1) dgNil)))) dPass) sTail) { nx := fun e => lentEnd P .none e, rt := lentEnd P } [.bo (stO bL bT lx ly 0 ty), .un] := by
  have hT1 : ∀ bT', 0 < ty → Tk G n Y B bL bT' lx ly ty → sTail { nx := fun e => lentEnd P .none e, rt := lentEnd P } [.bo (stO bL bT' lx ly 0 ty), .un] := fun bT' c h => settle_tail (z := .un) (P := P) hn hY l0 c h (fun bL' b d a S => hP _ _ b d a S)
  have hT2 : ∀ bT', 0 < -ty → Tk G n Y B bL bT' lx ly (-ty) → sTail { nx := fun e => lentEnd P .none e, rt := lentEnd P } [.bo (stO bL bT' lx ly 0 (-ty)), .un] := fun bT' c h => settle_tail (z := .un) (P := P) hn hY l0 c h (fun bL' b d a S => hP _ _ b d a S)
  revert hT1 hT2
  generalize sTail = T
  intro hT1 hT2
  by_cases c : ty < 0
  · unfold stO
    simp
    rw [if_pos c]
    refine sp_less2 m10' (m1' h.ht (by omega)) ?_
    refine sp_opposites (by rw [h.n2]; omega) ?_
    simp
    have h' : Tk G n Y B bL (bT.map fun x => -x) lx ly (-ty) := ⟨fun x y => inH_neg2.trans (h.eq x y), h.n1, by simp [h.n2], h.hx, h.hy, h.ht.neg, h.sL, sb_neg h.sT⟩
    have := hT2 _ (by omega) h'
    unfold stO at this
    exact this
  · unfold stO
    simp
    rw [if_neg c]
    have := hT1 _ (by omega) h
    unfold stO at this
    exact this
theorem sp_settle {G : Int → Int → Prop} {n Y B : Nat} {bL bT : List Int} {lx ly ty : Int} {P : D → Ow → Prop} (hn : n ≤ 900) (hY : Y + B + B ≤ 8000) (a0 : lx ≠ 0) (d0 : ty ≠ 0) (h : Tk G n Y B bL bT lx ly ty) (hP : ∀ bL' bT' b d a, Se G n bL' bT' a b d → P .none (stO bL' bT' a b 0 d)) : C_Pair_settle (stO bL bT lx ly 0 ty) [] P := by
  refine u_Pair_settle ?_
  unfold t_Pair_settle
  have hT1 : ∀ bL', 0 < lx → Tk G n Y B bL' bT lx ly ty → _ := fun bL' c h => settle_second (P := P) hn hY c d0 h hP
  have hT2 : ∀ bL', 0 < -lx → Tk G n Y B bL' bT (-lx) (-ly) ty → _ := fun bL' c h => settle_second (P := P) hn hY c d0 h hP
  revert hT1 hT2
  generalize (dSeq (dIfS (dB (dBin gLt (dBin gIx (dFldO (Clss.adr "Pair") 0 3) (dC (.int 1))) (dC (.int 0)))) _ _) sTail) = T
  intro hT1 hT2
  by_cases c : lx < 0
  · unfold stO
    simp
    rw [if_pos c]
    refine sp_less2 (m1' h.hx (by omega)) (m1' h.hy (by omega)) ?_
    refine sp_opposites (by rw [h.n1]; omega) ?_
    simp
    have h' : Tk G n Y B (bL.map fun x => -x) bT (-lx) (-ly) ty := ⟨fun x y => inH_neg1.trans (h.eq x y), by simp [h.n1], h.n2, h.hx.neg, h.hy.neg, h.ht, sb_neg h.sL, h.sT⟩
    have := hT2 _ (by omega) h'
    unfold stO at this
    exact this
  · unfold stO
    simp
    rw [if_neg c]
    have := hT1 _ (by omega) h
    unfold stO at this
    exact this
end Nk66

namespace Nk66
open PySem PySem.Spec PyProof.Rows L2 DL
variable [Clss]
def pt (p : Int × Int) : D := .tuple [.int p.1, .int p.2]
def gD (S : List (Int × Int)) : D := .tuple (S.map pt)
structure Grid (S : List (Int × Int)) : Prop where
  l1 : 2 ≤ S.length
  l2 : S.length ≤ 20
  bd : ∀ p ∈ S, -2000 ≤ p.1 ∧ p.1 ≤ 2000 ∧ -2000 ≤ p.2 ∧ p.2 ≤ 2000
  ne : ∃ p ∈ S, ∃ q ∈ S, p.1 * q.2 - p.2 * q.1 ≠ 0
theorem span_snoc {S : List (Int × Int)} {p : Int × Int} {x y : Int} : Span (S ++ [p]) x y ↔ Span (p :: S) x y := by
  constructor
  · refine span_le (lat_span _) (fun q hq => ?_)
    rcases List.mem_append.mp hq with h | h
    · exact span_mem (List.mem_cons_of_mem _ h)
    · rw [List.mem_singleton] at h
      subst h
      exact span_mem (List.mem_cons_self ..)
  · refine span_le (lat_span _) (fun q hq => ?_)
    rcases List.mem_cons.mp hq with h | h
    · subst h
      exact span_mem (List.mem_append_right _ (List.mem_singleton.mpr rfl))
    · exact span_mem (List.mem_append_left _ h)
theorem tri_span {T : List (Int × Int)} {sx sy lx ly ty : Int} (h : ∀ x y, InH lx ly ty x y ↔ Span T x y) (x y : Int) : Tri sx sy lx ly ty x y ↔ Span (T ++ [(sx, sy)]) x y := by
  rw [span_snoc]
  constructor
  · rintro ⟨i, j, k, e1, e2⟩
    exact ⟨i, (h _ _).mp ⟨j, k, by show x - i * sx = _; omega, by show y - i * sy = _; omega⟩⟩
  · rintro ⟨i, hs⟩
    obtain ⟨j, k, e1, e2⟩ := (h _ _).mpr hs
    refine ⟨i, j, k, ?_, ?_⟩
    · have : x - i * sx = j * lx := e1
      omega
    · have : y - i * sy = j * ly + k * ty := e2
      omega
theorem cross_in {lx ly ty x y x' y' : Int} (h1 : InH lx ly ty x y) (h2 : InH lx ly ty x' y') : ∃ k, x * y' - y * x' = k * (lx * ty) := by
  obtain ⟨i, j, rfl, rfl⟩ := h1
  obtain ⟨i', j', rfl, rfl⟩ := h2
  exact ⟨i * j' - j * i', by grind⟩
def Bt : Nat → Nat
  | 0 => 1
  | i + 1 => Bt i + (11 + 14 * i) + 31
theorem bt_le {i : Nat} (h : i ≤ 20) : Bt i ≤ 3600 := by
  have : ∀ i : Fin 21, Bt i ≤ 3600 := by decide
  exact this ⟨i, by omega⟩
theorem bt_ge : ∀ i, 1 ≤ Bt i
  | 0 => Nat.le_refl 1
  | i + 1 => by
    have := bt_ge i
    show 1 ≤ Bt i + (11 + 14 * i) + 31
    omega
theorem bdX {x : Int} (h1 : -2000 ≤ x) (h2 : x ≤ 2000) : Bd 11 x := by
  unfold Bd
  show x.natAbs < 2048
  omega
def unit (n i : Nat) : List Int := (List.range n).map fun (j : Nat) => if (i : Int) = (j : Int) then 1 else 0
def IV (S : List (Int × Int)) (n : Nat) (i : Nat) (e : DL.Env) : Prop := ∃ bL bT lx ly ty z1 z2, e = [.bo (stO bL bT lx ly 0 ty), .im (gD S), .im (iv (List.replicate n 0)), z1, z2, .un] ∧ Tk (Span (S.take i)) n (11 + 14 * i) (Bt i) bL bT lx ly ty
theorem sb_rep {k n : Nat} : SB (k + 1) (List.replicate n 0) := fun x hx => by
  rw [(List.mem_replicate.mp hx).2]
  exact Nat.pow_pos (by decide)
theorem sp_init {S : List (Int × Int)} {cs : Ow} {P : D → Ow → Prop} (g : Grid S) (hc : cs = .obj (Clss.adr "Pair") [.none, .none, .none, .none]) (h : ∀ bL bT b d a, Se (Span S) S.length bL bT a b d → P .none (stO bL bT a b 0 d)) : C_Pair___init__ cs [gD S] P := by
  subst hc
  refine u_Pair___init__ ?_
  unfold t_Pair___init__
  have hS : gD S = .tuple (S.map pt) := rfl
  rw [hS]
  have l1 := g.l1
  have l2 := g.l2
  have er : (List.replicate S.length [(.int 0 : D)]).flatten = (List.replicate S.length (0 : Int)).map PyData.int := by
    rw [List.map_replicate]
    generalize S.length = n
    induction n with
    | zero => rfl
    | succ n ih => rw [List.replicate_succ, List.flatten_cons, ih, List.replicate_succ]; rfl
  have ez : S.map pt ≠ [] := by
    intro e
    have := congrArg List.length e
    rw [List.length_map] at this
    simp at this
    subst this
    simp at l1
  simp
  refine ⟨by omega, by omega, for_enumT (e1 := [.bo (stO (List.replicate S.length 0) (List.replicate S.length 0) 0 0 0 0), .im (gD S), .im (iv (List.replicate S.length 0)), .un, .un, .un]) (ds := S.map pt) (fun Q z => ?_) (IV S S.length) ⟨_, _, _, _, _, _, _, rfl, ?_⟩ ?_ ?_⟩
  · simp [stO, iv, gD] at z ⊢
    exact z
  · have b0 : ∀ k, Bd (k + 1) 0 := fun k => Nat.pow_pos (by decide)
    refine ⟨fun x y => ?_, by simp, by simp, b0 10, b0 10, b0 10, sb_rep, sb_rep⟩
    show _ ↔ x = 0 ∧ y = 0
    constructor
    · rintro ⟨i, j, e1, e2⟩; exact ⟨by omega, by omega⟩
    · rintro ⟨e1, e2⟩; exact ⟨0, 0, by omega, by omega⟩
  · rintro i x e2 hx ⟨bL, bT, lx, ly, ty, z1, z2, rfl, T⟩
    obtain ⟨p, hp, rfl⟩ := map_get hx
    have hi := (List.getElem?_eq_some_iff.mp hp).1
    have bp := g.bd p (mem_get hp)
    unfold stO pt iv gD
    simp
    refine comp_rng1 (j := (S.length : Int)) (e1 := [.bo (stO bL bT lx ly 0 ty), .im (gD S), .im (iv (List.replicate S.length 0)), .im (.int i), .im (pt p), .un]) (fun Q z => ?_) (by omega) (by omega)
      (fun j acc e => acc = ((unit S.length i).take j).map PyData.int ∧ e = [.bo (stO bL bT lx ly 0 ty), .im (gD S), .im (iv (List.replicate S.length 0)), .im (.int i), .im (pt p), .un]) ⟨rfl, rfl⟩ ?_ ?_
    · simp [stO, iv, gD, pt] at z ⊢
      exact z
    · rintro j acc e2 hj ⟨rfl, rfl⟩
      have hu : (unit S.length i)[j]? = some (if (i : Int) = (j : Int) then 1 else 0) := by
        unfold unit
        rw [List.getElem?_map, List.getElem?_range (by omega)]
        rfl
      rw [take_S hu]
      simp
      exact sz (by omega)
    · rintro acc e2 ⟨rfl, rfl⟩
      have et : (unit S.length i).take ((S.length : Int)).toNat = unit S.length i := List.take_of_length_le (by unfold unit; simp)
      rw [et]
      simp
      have fu : SB (Bt i) (unit S.length i) := fun x hx => by
        unfold unit at hx
        rw [List.mem_map] at hx
        obtain ⟨j, _, rfl⟩ := hx
        have : 2 ^ 1 ≤ 2 ^ Bt i := Nat.pow_le_pow_right (by decide) (bt_ge i)
        unfold Bd
        split
        · show 1 < _; omega
        · show 0 < _; omega
      have bb : Bt i ≤ 3600 := bt_le (by omega)
      refine sp_take (Y := 11 + 14 * i) (B := Bt i) (by omega) (by unfold unit; simp) T.n1 T.n2 (by omega) (by omega) (bdX (by omega) (by omega)) T.hx ((bdX (by omega) (by omega) : Bd 11 p.2).mono (by omega)) T.hy T.ht fu T.sL T.sT (fun bL' bT' lx' ly' ty' R => ⟨_, _, _, _, _, _, _, rfl, ?_⟩)
      have ek : 11 + 14 * (i + 1) = 11 + 14 * i + 14 := by omega
      rw [ek]
      exact ⟨fun x y => (R.eq x y).trans ((tri_span T.eq x y).trans (by rw [take_S hp])), R.n1, R.n2, R.hx, R.hy, R.ht, R.sL, R.sT⟩
  · rintro e2 ⟨bL, bT, lx, ly, ty, z1, z2, rfl, T⟩
    rw [List.length_map] at T
    rw [List.take_length] at T
    unfold stO
    simp
    obtain ⟨p, hp, q, hq, hne⟩ := g.ne
    obtain ⟨k, hk⟩ := cross_in ((T.eq _ _).mpr (span_mem hp)) ((T.eq _ _).mpr (span_mem hq))
    have bb : Bt S.length ≤ 3600 := bt_le (by omega)
    exact sp_settle (Y := 11 + 14 * S.length) (B := Bt S.length) (by omega) (by omega) (fun z => hne (by rw [hk, z]; simp)) (fun z => hne (by rw [hk, z]; simp)) T h
end Nk66

namespace Nk66
open PySem PySem.Spec PyProof.Rows L2 DL
variable [Clss]
def pd (a b d : Int) : D := .tuple [.tuple [.int a, .int b], .tuple [.int 0, .int d]]
theorem sp_grid_pair_in {S : List (Int × Int)} {P : D → Prop} (g : Grid S) (h : ∀ a b d, Hn (Span S) a b d → P (pd a b d)) : C_grid_pair_in [gD S] P := by
  refine u_grid_pair_in ?_
  simp [t_grid_pair_in]
  refine sp_init g rfl (fun bL bT b d a R => ⟨rfl, ?_⟩)
  unfold stO
  simp
  refine u_Pair_pair ?_
  simp [t_Pair_pair]
  exact h _ _ _ R.hn
theorem hn_bd {S : List (Int × Int)} {a b d : Int} (g : Grid S) (h : Hn (Span S) a b d) : a ≤ 8000000 ∧ d ≤ 8000000 := by
  obtain ⟨p, hp, q, hq, hne⟩ := g.ne
  obtain ⟨k, hk⟩ := cross_in ((h.eq _ _).mp (span_mem hp)) ((h.eq _ _).mp (span_mem hq))
  have bp := g.bd p hp
  have bq := g.bd q hq
  have m1 : (p.1 * q.2).natAbs ≤ 2000 * 2000 := by rw [Int.natAbs_mul]; exact Nat.mul_le_mul (by omega) (by omega)
  have m2 : (p.2 * q.1).natAbs ≤ 2000 * 2000 := by rw [Int.natAbs_mul]; exact Nat.mul_le_mul (by omega) (by omega)
  rw [hk] at hne
  have m3 : (k * (a * d)).natAbs = k.natAbs * (a.natAbs * d.natAbs) := by rw [Int.natAbs_mul, Int.natAbs_mul]
  have k0 : 1 ≤ k.natAbs := by
    rcases Nat.eq_zero_or_pos k.natAbs with z | z
    · rw [Int.natAbs_eq_zero.mp z] at hne; simp at hne
    · exact z
  have a0 := h.a0
  have d0 := h.d0
  have m4 : 1 * (a.natAbs * d.natAbs) ≤ k.natAbs * (a.natAbs * d.natAbs) := Nat.mul_le_mul_right _ k0
  have m5 : a.natAbs * 1 ≤ a.natAbs * d.natAbs := Nat.mul_le_mul_left _ (by omega)
  have m6 : 1 * d.natAbs ≤ a.natAbs * d.natAbs := Nat.mul_le_mul_right _ (by omega)
  omega
open Classical in
noncomputable def inS (S : List (Int × Int)) (p : Int × Int) : Bool := decide (Span S p.1 p.2)
theorem inS_iff {S : List (Int × Int)} {p : Int × Int} : inS S p = true ↔ Span S p.1 p.2 := by unfold inS; simp
def slf (bL bT : List Int) (a b d : Int) : D := .dict [(.bool true, .tuple [.int (Clss.adr "Pair" : Nat), iv bL, iv bT, .tuple [.int a, .int b], .tuple [.int 0, .int d]])]
theorem sp_told_as {S : List (Int × Int)} {n : Nat} {bL bT : List Int} {a b d : Int} {p : Int × Int} {P : D → Prop} (hn : n ≤ 900) (R : Se (Span S) n bL bT a b d) (hd : d ≤ 8000000) (h1 : -2000 ≤ p.1) (h2 : p.1 ≤ 2000) (h3 : -2000 ≤ p.2) (h4 : p.2 ≤ 2000)
    (hy : Span S p.1 p.2 → ∀ zs, P (iv zs)) (hno : ¬ Span S p.1 p.2 → P .none) : C_Pair_told_as [slf bL bT a b d, pt p] P := by
  have hS := R.hn.eq p.1 p.2
  rw [inH_iff R.hn.a0 R.hn.d0] at hS
  rw [hS] at hy hno
  refine u_Pair_told_as ?_
  obtain ⟨x, y⟩ := p
  dsimp only at *
  have a0 := R.hn.a0
  have d0 := R.hn.d0
  have b0 := R.hn.b0
  have bd := R.hn.bd
  have := R.a1
  have Ba : Bd 101 a := bdI (by omega)
  have Bb : Bd 101 b := bdI (by omega)
  have Bd' : Bd 101 d := bdI (by omega)
  have Bx : Bd 101 x := bdI (by omega)
  have By : Bd 101 y := bdI (by omega)
  have Bm : Bd 102 (x / a) := ediv_bd a0 Bx
  have Bmb : Bd 203 (x / a * b) := Bm.mul Bb
  have Br : Bd 305 (y - x / a * b) := By.sub Bmb
  have Bs : Bd 306 ((y - x / a * b) / d) := ediv_bd d0 Br
  unfold t_Pair_told_as slf pt
  simp
  refine ⟨a0, ?_⟩
  by_cases c1 : x % a = 0
  · rw [if_pos c1]
    refine ⟨divB a0 Ba (by omega), mulB Bm Bb (by omega) (by omega), d0, ?_⟩
    by_cases c2 : (y - x / a * b) % d = 0
    · rw [if_pos c2]
      refine ⟨divB d0 Bd' (by omega), ?_⟩
      have hr := hy ⟨c1, c2⟩
      generalize (y - x / a * b) / d = r at *
      generalize x / a = m at *
      have hlen : (List.zipWith (fun p q => m * p + r * q) bL bT).length = n := by rw [List.length_zipWith, R.n1, R.n2]; omega
      refine comp_zipT (xs := bL.map PyData.int) (ys := bT.map PyData.int) (e1 := [.im (slf bL bT a b d), .im (.tuple [.int x, .int y]), .im (.int x), .im (.int y), .im (.int m), .im (.int (y - m * b)), .im (.int r), .un, .un]) (fun Q z => ?_)
        (fun i acc e => acc = ((List.zipWith (fun p q => m * p + r * q) bL bT).take i).map PyData.int ∧ e = [.im (slf bL bT a b d), .im (.tuple [.int x, .int y]), .im (.int x), .im (.int y), .im (.int m), .im (.int (y - m * b)), .im (.int r), .un, .un]) ⟨rfl, rfl⟩ ?_ ?_
      · simp [slf, iv] at z ⊢
        exact z
      · rintro i u v acc e2 h1 h2 ⟨rfl, rfl⟩
        obtain ⟨p, hp, rfl⟩ := map_get h1
        obtain ⟨q, hq, rfl⟩ := map_get h2
        have hi : (List.zipWith (fun p q => m * p + r * q) bL bT)[i]? = some (m * p + r * q) := by rw [List.getElem?_zipWith, hp, hq]
        have hil := (List.getElem?_eq_some_iff.mp hi).1
        rw [take_S hi]
        simp
        exact ⟨mulB Bm (R.sL p (mem_get hp)) (by omega) (by omega), mulB Bs (R.sT q (mem_get hq)) (by omega) (by omega), sz (by omega)⟩
      · rintro acc e2 ⟨rfl, rfl⟩
        have et : (List.zipWith (fun p q => m * p + r * q) bL bT).take (min (bL.map PyData.int).length (bT.map PyData.int).length) = List.zipWith (fun p q => m * p + r * q) bL bT := List.take_of_length_le (by rw [hlen, List.length_map, List.length_map, R.n1, R.n2]; omega)
        rw [et]
        have hz := hr (List.zipWith (fun p q => m * p + r * q) bL bT)
        unfold iv at hz
        simp at hz ⊢
        exact hz
    · rw [if_neg c2]
      exact hno (fun z => c2 z.2)
  · rw [if_neg c1]
    exact hno (fun z => c1 z.1)
theorem sp_has_in_grid {S : List (Int × Int)} {p : Int × Int} {P : D → Prop} (g : Grid S) (h1 : -2000 ≤ p.1) (h2 : p.1 ≤ 2000) (h3 : -2000 ≤ p.2) (h4 : p.2 ≤ 2000) (h : P (.bool (inS S p))) : C_has_in_grid [gD S, pt p] P := by
  refine u_has_in_grid ?_
  simp [t_has_in_grid]
  have l2 := g.l2
  refine sp_init g rfl (fun bL bT b d a R => ⟨rfl, ?_⟩)
  unfold stO
  simp
  refine sp_told_as (by omega) R (hn_bd g R.hn).2 h1 h2 h3 h4 (fun y zs => ?_) (fun n => ?_)
  · have e : inS S p = true := inS_iff.mpr y
    rw [e] at h
    unfold iv
    simp
    exact h
  · have e : inS S p = false := by
      cases z : inS S p
      · rfl
      · exact absurd (inS_iff.mp z) n
    rw [e] at h
    simp
    exact h
theorem sp_is_within_grid {S T : List (Int × Int)} {P : D → Prop} (gS : Grid S) (g : Grid T) (h : P (.bool (S.all (inS T)))) : C_is_within_grid [gD S, gD T] P := by
  refine u_is_within_grid ?_
  unfold t_is_within_grid
  have l2 := g.l2
  have l2' := gS.l2
  rw [s_seq]
  simp
  refine sp_init g rfl (fun bL bT b d a R => ⟨rfl, ?_⟩)
  unfold stO
  simp
  refine comp_tup (ds := S.map pt) (e1 := [.im (gD S), .im (gD T), .im (slf bL bT a b d), .un]) (fun Q z => by simpa [gD, slf] using z)
    (fun i acc e => acc = ((S.map (inS T)).take i).map PyData.bool ∧ e = [.im (gD S), .im (gD T), .im (slf bL bT a b d), .un]) ⟨rfl, rfl⟩ ?_ ?_
  · rintro i x acc e2 h1 ⟨rfl, rfl⟩
    obtain ⟨p, hp, rfl⟩ := map_get h1
    have hi : (S.map (inS T))[i]? = some (inS T p) := by rw [List.getElem?_map, hp]; rfl
    have hlt := (List.getElem?_eq_some_iff.mp hp).1
    have bp := gS.bd p (mem_get hp)
    rw [take_S hi]
    unfold slf
    simp
    refine sp_told_as (by omega) R (hn_bd g R.hn).2 bp.1 bp.2.1 bp.2.2.1 bp.2.2.2 (fun y zs => ?_) (fun n => ?_)
    · have e : inS T p = true := inS_iff.mpr y
      rw [e]
      unfold iv
      simp
      exact sz (by omega)
    · have e : inS T p = false := by
        cases z : inS T p
        · rfl
        · exact absurd (inS_iff.mp z) n
      rw [e]
      simp
      exact sz (by omega)
  · rintro acc e2 ⟨rfl, rfl⟩
    have et : (S.map (inS T)).take (S.map pt).length = S.map (inS T) := List.take_of_length_le (by rw [List.length_map, List.length_map]; omega)
    rw [et]
    have eb := boolsOf_bools (S.map (inS T))
    show gAll [.list ((S.map (inS T)).map PyData.bool)] (fun d => P d)
    rw [s_all, eb]
    have ea : (S.map (inS T)).all id = S.all (inS T) := by rw [List.all_map]; rfl
    simp only [ea]
    exact h
theorem sp_cross_in {p q : Int × Int} {P : D → Prop} (bp : -2000 ≤ p.1 ∧ p.1 ≤ 2000 ∧ -2000 ≤ p.2 ∧ p.2 ≤ 2000) (bq : -2000 ≤ q.1 ∧ q.1 ≤ 2000 ∧ -2000 ≤ q.2 ∧ q.2 ≤ 2000) (h : P (.int (p.1 * q.2 - p.2 * q.1))) : C_cross_in [pt p, pt q] P := by
  refine u_cross_in ?_
  unfold t_cross_in pt
  simp
  exact ⟨mulB (k := 11) (m := 11) (bdX (by omega) (by omega)) (bdX (by omega) (by omega)) (by omega) (by omega), mulB (k := 11) (m := 11) (bdX (by omega) (by omega)) (bdX (by omega) (by omega)) (by omega) (by omega), h⟩
def Cx (p q : Int × Int) : Int := p.1 * q.2 - p.2 * q.1
theorem comp2_tup {tt tt1 : DB} {f ff : DT} {gd gd1 : DTg} {wi1 : DI} {SO : Ow → DL.Env → Prop} {e e1 : DL.Env} {vs vs1 : List Nat} {ds : List D} (hr : ∀ Q : D → DL.Env → Prop, Q (.tuple ds) e1 → ff e Q) (Pv : Nat → List D → DL.Env → Prop) (h0 : Pv 0 [] (wipeE e1 vs))
    (hs : ∀ i d acc e2, ds[i]? = some d → Pv i acc e2 → gd d e2 fun e3 => tt e3 fun k e4 => if k = true then
      wi1 e4 fun ds1 e5 => ∃ Pw : Nat → List D → DL.Env → Prop, Pw 0 acc (wipeE e5 vs1) ∧
        (∀ j d1 acc1 e6, ds1[j]? = some d1 → Pw j acc1 e6 → gd1 d1 e6 fun e7 => tt1 e7 fun k1 e8 => if k1 = true then f e8 fun y e9 => acc1.length < sizeLine ∧ Pw (j + 1) (acc1 ++ [y]) (wipeE e9 vs1) else Pw (j + 1) acc1 (wipeE e8 vs1)) ∧
        ∀ acc1 e6, Pw ds1.length acc1 e6 → Pv (i + 1) acc1 (wipeE e6 vs)
      else Pv (i + 1) acc (wipeE e4 vs))
    (hd : ∀ acc e2, Pv ds.length acc e2 → SO (.lst acc) e2) : dComp2 (dItT ff) gd tt wi1 gd1 tt1 f vs vs1 e SO := hr _ ⟨Pv, h0, hs, hd⟩
theorem itT_ex {ff : DT} {ds : List D} {e e1 : DL.Env} {S : List D → DL.Env → Prop} (hr : ∀ Q : D → DL.Env → Prop, Q (.tuple ds) e1 → ff e Q) (h : S ds e1) : dItT ff e S := hr _ h
theorem sp_is_step {p : Int × Int} {P : D → Prop} (bp : -2000 ≤ p.1 ∧ p.1 ≤ 2000 ∧ -2000 ≤ p.2 ∧ p.2 ≤ 2000) (h : P (.bool true)) : C_is_step_in [pt p] P := sp_is_step_in bp.1 bp.2.1 bp.2.2.1 bp.2.2.2 h
theorem sp_is_grid_in {S : List (Int × Int)} {P : D → Prop} (g : Grid S) (h : P (.bool true)) : C_is_grid_in [gD S] P := by
  refine u_is_grid_in ?_
  unfold t_is_grid_in
  have l1 := g.l1
  have l2 := g.l2
  have hS : gD S = .tuple (S.map pt) := rfl
  rw [hS]
  simp
  have a1 : (decide (1 < (S.length : Int))) = true := by rw [decide_eq_true_eq]; omega
  rw [a1]
  show (if 20 < (S.length : Int) then _ else _)
  rw [if_neg (by omega)]
  refine comp_tup (ds := S.map pt) (e1 := [.im (gD S), .un, .un, .un]) (fun Q z => by simpa [gD] using z)
    (fun i acc e => acc = (List.replicate i true).map PyData.bool ∧ e = [.im (gD S), .un, .un, .un]) ⟨rfl, rfl⟩ ?_ ?_
  · rintro i x acc e2 h1 ⟨rfl, rfl⟩
    obtain ⟨p, hp, rfl⟩ := map_get h1
    have hlt := (List.getElem?_eq_some_iff.mp hp).1
    simp
    refine sp_is_step (g.bd p (mem_get hp)) ⟨sz (by omega), ?_⟩
    rw [List.replicate_succ']
  · rintro acc e2 ⟨rfl, rfl⟩
    show gAll [.list ((List.replicate (S.map pt).length true).map PyData.bool)] _
    have ea : (List.replicate (S.map pt).length true).all id = true := by simp
    rw [s_all, boolsOf_bools]
    simp only [ea, if_true]
    refine comp2_tup (ds := S.map pt) (e1 := [.im (gD S), .un, .un, .un]) (fun Q z => by simpa [gD] using z)
      (fun i acc e => ∃ bs : List Bool, acc = bs.map PyData.bool ∧ e = [.im (gD S), .un, .un, .un] ∧ bs.length = i * S.length ∧ ∀ (j k : Nat) (p q : Int × Int), S[j]? = some p → S[k]? = some q → j < i → p.1 * q.2 - p.2 * q.1 ≠ 0 → true ∈ bs) ⟨[], rfl, rfl, by simp, fun j k p q _ _ hj => absurd hj (by omega)⟩ ?_ ?_
    · rintro i x acc e2 h1 ⟨bs, rfl, rfl, hl, hm⟩
      obtain ⟨p, hp, rfl⟩ := map_get h1
      have hlt := (List.getElem?_eq_some_iff.mp hp).1
      have il : i * S.length ≤ 20 * 20 := Nat.mul_le_mul (by omega) l2
      simp only [s_gName, DL.st_S, DL.st_0, s_yes, if_true]
      refine itT_ex (ds := S.map pt) (e1 := [.im (gD S), .un, .im (pt p), .un]) (fun Q z => by simpa [gD] using z)
        ⟨fun k acc e => ∃ bs : List Bool, acc = bs.map PyData.bool ∧ e = [.im (gD S), .un, .im (pt p), .un] ∧ bs.length = i * S.length + k ∧ ∀ (j k' : Nat) (p q : Int × Int), S[j]? = some p → S[k']? = some q → j < i ∨ j = i ∧ k' < k → p.1 * q.2 - p.2 * q.1 ≠ 0 → true ∈ bs, ⟨bs, rfl, rfl, hl, fun j k' p q a b c d => hm j k' p q a b (by omega) d⟩, ?_, ?_⟩
      · rintro k y acc e2 h1 ⟨bs, rfl, rfl, hl, hm⟩
        obtain ⟨q, hq, rfl⟩ := map_get h1
        have hlt := (List.getElem?_eq_some_iff.mp hq).1
        simp
        refine sp_cross_in (g.bd p (mem_get hp)) (g.bd q (mem_get hq)) ?_
        simp
        refine ⟨sz (by omega), bs ++ [!decide (p.1 * q.2 - p.2 * q.1 = 0)], by simp, by rw [List.length_append, List.length_singleton]; omega, ?_⟩
        intro j k' p1 p2 q1 q2 e1 e2 e3 e4
        by_cases c : j = i ∧ k' = k
        · obtain ⟨rfl, rfl⟩ := c
          rw [hp] at e1
          rw [hq] at e2
          cases e1
          cases e2
          exact List.mem_append_right _ (by simp [e4])
        · exact List.mem_append_left _ (hm j k' (p1, p2) (q1, q2) e1 e2 (by omega) e4)
      · rintro acc e2 ⟨bs, rfl, rfl, hl, hm⟩
        rw [List.length_map] at hl hm
        refine ⟨bs, rfl, rfl, by rw [hl, Nat.succ_mul], fun j k p q a b c d => hm j k p q a b ?_ d⟩
        have := (List.getElem?_eq_some_iff.mp b).1
        omega
    · rintro acc e2 ⟨bs, rfl, rfl, hl, hm⟩
      show gAny [.list (bs.map PyData.bool)] _
      rw [s_any, boolsOf_bools]
      obtain ⟨p, hp, q, hq, hne⟩ := g.ne
      obtain ⟨j, hj, rfl⟩ := List.mem_iff_getElem.mp hp
      obtain ⟨k, hk, rfl⟩ := List.mem_iff_getElem.mp hq
      have ht := hm j k _ _ (List.getElem?_eq_getElem hj) (List.getElem?_eq_getElem hk) (by rw [List.length_map]; exact hj) hne
      have ea : bs.any id = true := List.any_eq_true.mpr ⟨true, ht, rfl⟩
      simp only [ea]
      exact h
end Nk66

namespace Nk66
open PySem PySem.Spec PyProof.Rows L2 DL
variable [Clss]
theorem sp_require_grid {S : List (Int × Int)} {P : D → Prop} (g : Grid S) (h : P .none) : C_require_grid [gD S] P := by
  refine u_require_grid ?_
  simp [t_require_grid]
  refine sp_is_grid_in g ?_
  simpa using h
theorem sp_require_point {p : Int × Int} {P : D → Prop} (b : -1000 ≤ p.1 ∧ p.1 ≤ 1000 ∧ -1000 ≤ p.2 ∧ p.2 ≤ 1000) (h : P .none) : C_require_point [pt p] P := by
  refine u_require_point ?_
  simp [t_require_point]
  refine sp_is_point_in (x := p.1) (y := p.2) b.1 b.2.1 b.2.2.1 b.2.2.2 ?_
  simpa using h
theorem sp_require_grids {S T : List (Int × Int)} {P : D → Prop} (g : Grid S) (g' : Grid T) (h : P .none) : C_require_grids [gD S, gD T] P := by
  refine u_require_grids ?_
  simp [t_require_grids]
  refine sp_require_grid g (sp_require_grid g' ?_)
  exact h
theorem sp_require_grid_point {S : List (Int × Int)} {p : Int × Int} {P : D → Prop} (g : Grid S) (b : -1000 ≤ p.1 ∧ p.1 ≤ 1000 ∧ -1000 ≤ p.2 ∧ p.2 ≤ 1000) (h : P .none) : C_require_grid_point [gD S, pt p] P := by
  refine u_require_grid_point ?_
  simp [t_require_grid_point]
  refine sp_require_grid g (sp_require_point b ?_)
  exact h
theorem sp_grid_pair {S : List (Int × Int)} {P : D → Prop} (g : Grid S) (h : ∀ a b d, Hn (Span S) a b d → P (pd a b d)) : C_grid_pair [gD S] P := by
  refine u_grid_pair ?_
  simp [t_grid_pair]
  exact sp_require_grid g (sp_grid_pair_in g h)
theorem sp_index_in {S : List (Int × Int)} {P : D → Prop} (g : Grid S) (h : ∀ a b d, Hn (Span S) a b d → P (.int (a * d))) : C_index_in [gD S] P := by
  refine u_index_in ?_
  simp [t_index_in]
  refine sp_grid_pair_in g (fun a b d R => ?_)
  obtain ⟨h1, h2⟩ := hn_bd g R
  have := R.a0
  have := R.d0
  unfold pd
  simp
  exact ⟨mulB (k := 101) (m := 101) (bdI (by omega)) (bdI (by omega)) (by omega) (by omega), h a b d R⟩
theorem sp_grid_index {S : List (Int × Int)} {P : D → Prop} (g : Grid S) (h : ∀ a b d, Hn (Span S) a b d → P (.int (a * d))) : C_grid_index [gD S] P := by
  refine u_grid_index ?_
  simp [t_grid_index]
  exact sp_require_grid g (sp_index_in g h)
theorem sp_is_in_grid {S : List (Int × Int)} {p : Int × Int} {P : D → Prop} (g : Grid S) (b : -1000 ≤ p.1 ∧ p.1 ≤ 1000 ∧ -1000 ≤ p.2 ∧ p.2 ≤ 1000) (h : P (.bool (inS S p))) : C_is_in_grid [gD S, pt p] P := by
  refine u_is_in_grid ?_
  simp [t_is_in_grid]
  exact sp_require_grid_point g b (sp_has_in_grid g (by omega) (by omega) (by omega) (by omega) h)
theorem gAdd_grid {S T : List (Int × Int)} : (gD S : D) = .tuple (S.map pt) ∧ gD (S ++ T) = .tuple (S.map pt ++ T.map pt) := ⟨rfl, by unfold gD; rw [List.map_append]⟩
theorem sp_joint_grid {S T : List (Int × Int)} {P : D → Prop} (g : Grid S) (g' : Grid T) (hl : S.length + T.length ≤ 20) (h : ∀ a b d, Hn (Span (S ++ T)) a b d → P (pd a b d)) : C_joint_grid [gD S, gD T] P := by
  have gg : Grid (S ++ T) := by
    refine ⟨by rw [List.length_append]; have := g.l1; omega, by rw [List.length_append]; exact hl, fun p hp => ?_, ?_⟩
    · rcases List.mem_append.mp hp with z | z
      · exact g.bd p z
      · exact g'.bd p z
    · obtain ⟨p, hp, q, hq, e⟩ := g.ne
      exact ⟨p, List.mem_append_left _ hp, q, List.mem_append_left _ hq, e⟩
  refine u_joint_grid ?_
  simp [t_joint_grid]
  refine sp_require_grids g g' ?_
  have := sp_grid_pair_in gg h
  have l2 := g.l2
  have l2' := g'.l2
  rw [gAdd_grid.2] at this
  rw [gAdd_grid (T := T).1, gAdd_grid (S := T) (T := T).1]
  exact ⟨Nat.le_of_lt (sz (by rw [List.length_map, List.length_map]; omega)), this⟩
theorem sp_lies_within {S T : List (Int × Int)} {P : D → Prop} (g : Grid S) (g' : Grid T) (h : P (.bool (S.all (inS T)))) : C_lies_within [gD S, gD T] P := by
  refine u_lies_within ?_
  simp [t_lies_within]
  exact sp_require_grids g g' (sp_is_within_grid g g' h)
theorem beq_eq_decide {x y : Int} : (x == y) = decide (x = y) := rfl
@[simp ↓] theorem gEq_pd {a b d a' b' d' : Int} {P : D → Prop} : gEq (pd a b d) (pd a' b' d') P = P (.bool (decide (a = a' ∧ b = b' ∧ d = d'))) := by
  unfold gEq pd
  simp [SeqAt.shaped, PyData.canLay0, PyData.canLayAll0, PyData.depth, PyData.depthAll, PyData.eqv, PyData.eqvAll, Bool.and_assoc]
  simp only [beq_eq_decide]
@[simp ↓] theorem gNe_pd {a b d a' b' d' : Int} {P : D → Prop} : gNe (pd a b d) (pd a' b' d') P = P (.bool (!decide (a = a' ∧ b = b' ∧ d = d'))) := by
  unfold gNe pd
  simp [SeqAt.shaped, PyData.canLay0, PyData.canLayAll0, PyData.depth, PyData.depthAll, PyData.eqv, PyData.eqvAll, Bool.and_assoc]
  simp only [beq_eq_decide]
theorem sp_are_same {S T : List (Int × Int)} {P : D → Prop} (g : Grid S) (g' : Grid T) (h : ∀ a b d a' b' d', Hn (Span S) a b d → Hn (Span T) a' b' d' → P (.bool (decide (a = a' ∧ b = b' ∧ d = d')))) : C_are_same [gD S, gD T] P := by
  refine u_are_same ?_
  simp [t_are_same]
  refine sp_require_grids g g' (sp_grid_pair_in g (fun a b d R => sp_grid_pair_in g' (fun a' b' d' R' => ?_)))
  have := h a b d a' b' d' R R'
  rw [gEq_pd]
  exact this
end Nk66

namespace Nk66
def lc (x y : Int) : Int := x / (Int.gcd x y : Nat) * y
structure LcF (x y l : Int) (g : Int) : Prop where
  g0 : 0 < g
  l0 : 0 < l
  gx : g ∣ x
  gy : g ∣ y
  xl : x ∣ l
  yl : y ∣ l
  lg : l * g = x * y
  bz : ∃ p q : Int, p * x + q * y = g
  least : ∀ z, x ∣ z → y ∣ z → l ∣ z
theorem lc_facts {x y : Int} (hx : 0 < x) (hy : 0 < y) : LcF x y (lc x y) (Int.gcd x y : Nat) := by
  have gx : ((Int.gcd x y : Nat) : Int) ∣ x := Int.gcd_dvd_left x y
  have gy : ((Int.gcd x y : Nat) : Int) ∣ y := Int.gcd_dvd_right x y
  have g0 : 0 < ((Int.gcd x y : Nat) : Int) := by
    have := Int.gcd_pos_of_ne_zero_left y (show x ≠ 0 by omega)
    omega
  obtain ⟨p, q, hb⟩ := DL.bez (a := x) (b := y) (by omega) (by omega)
  unfold lc
  generalize ((Int.gcd x y : Nat) : Int) = g at *
  obtain ⟨u, hu⟩ := gx
  obtain ⟨v, hv⟩ := gy
  have e : x / g = u := by rw [hu]; exact Int.mul_ediv_cancel_left _ (by omega)
  rw [e]
  have u0 : 0 < u := by
    rcases Int.lt_or_le 0 u with z | z
    · exact z
    · have := Int.mul_nonpos_of_nonneg_of_nonpos (Int.le_of_lt g0) z
      omega
  refine ⟨g0, Int.mul_pos u0 hy, ⟨u, hu⟩, ⟨v, hv⟩, ⟨v, by rw [hu, hv]; grind⟩, ⟨u, Int.mul_comm _ _⟩, by rw [hu]; grind, ⟨p, q, by rw [hb]⟩, ?_⟩
  rintro z ⟨i, hi⟩ ⟨j, hj⟩
  have : g * z = g * (u * y * (p * j + q * i)) := by
    have h1 : g * z = p * x * z + q * y * z := by rw [← Int.add_mul, hb]
    have h2 : p * x * z = p * x * (y * j) := by rw [← hj]
    have h3 : q * y * z = q * y * (x * i) := by rw [← hi]
    rw [h1, h2, h3]
    have h4 : g * (u * y * (p * j + q * i)) = (g * u) * (y * (p * j + q * i)) := by grind
    rw [h4, ← hu]
    grind
  exact ⟨p * j + q * i, Int.eq_of_mul_eq_mul_left (by omega) this⟩
theorem emod_dvd {x t : Int} : t ∣ x - x % t := ⟨x / t, by have := Int.mul_ediv_add_emod x t; omega⟩
theorem alg1 {w u v b e j j' t d' f' : Int} (h : w * u * b + j * (t * d') = w * v * e + j' * (t * f')) : w * (u * b - v * e) = t * (j' * f' - j * d') := by grind
theorem alg2 {w ap u v b e t s z : Int} (h : ap = (u * b - v * e) - t * s) (k : w * (u * b - v * e) = t * z) : w * ap = t * (z - w * s) := by
  rw [h, Int.mul_sub, k, Int.mul_sub, Int.mul_left_comm]
theorem alg3 {w p q t ap g z : Int} (hb : p * t + q * ap = g) (k : w * ap = t * z) : t ∣ w * g := ⟨p * w + q * z, by rw [← hb, Int.mul_add, Int.mul_left_comm w q, k]; grind⟩
theorem alg4 {n m u b j d z r : Int} (h : r - m * u * b = d * z) : n * m * u * b + j * d - n * r = d * (j - n * z) := by
  have : r = d * z + m * u * b := by omega
  rw [this]
  grind
theorem alg5 {n m u b d z r o kd : Int} (h : r - m * u * b = d * z) : n * r + o * (d * kd) = n * m * u * b + (n * z + o * kd) * d := by
  have : r = d * z + m * u * b := by omega
  rw [this]
  grind
/-- what two flat pairs share -/
structure Cap (a b d c e f many r : Int) : Prop where
  m0 : 0 < many
  r0 : 0 ≤ r
  r1 : r < lc d f
  d1 : d ∣ r - many * (lc a c / a) * b
  d2 : f ∣ r - many * (lc a c / c) * e
theorem cap_hn {L M : Int → Int → Prop} {a b d c e f many r : Int} (h1 : Hn L a b d) (h2 : Hn M c e f) (hm : many = ((Int.gcd d f : Nat) : Int) / (Int.gcd ((Int.gcd d f : Nat) : Int) ((lc a c / a * b - lc a c / c * e) % ((Int.gcd d f : Nat) : Int)) : Nat)) (C : Cap a b d c e f many r) : Hn (fun x y => L x y ∧ M x y) (many * lc a c) r (lc d f) := by
  have F := lc_facts h1.a0 h2.a0
  have G := lc_facts h1.d0 h2.d0
  have C1 := C.d1
  have C2 := C.d2
  have r1 := C.r1
  have m0 := C.m0
  generalize hl : lc a c = l at *
  generalize hk : lc d f = k at *
  generalize ((Int.gcd d f : Nat) : Int) = t at *
  have gt : ((Int.gcd t ((l / a * b - l / c * e) % t) : Nat) : Int) ∣ t := Int.gcd_dvd_left _ _
  obtain ⟨p, q, hb⟩ := DL.bez (a := t) (b := (l / a * b - l / c * e) % t) (Int.le_of_lt G.g0) (Int.emod_nonneg _ (by have := G.g0; omega))
  have g0 : 0 < ((Int.gcd t ((l / a * b - l / c * e) % t) : Nat) : Int) := by
    have := Int.gcd_pos_of_ne_zero_left ((l / a * b - l / c * e) % t) (show t ≠ 0 by have := G.g0; omega)
    omega
  generalize ((Int.gcd t ((l / a * b - l / c * e) % t) : Nat) : Int) = g at *
  obtain ⟨s, hs⟩ := emod_dvd (x := l / a * b - l / c * e) (t := t)
  have mg : many * g = t := by rw [hm]; exact Int.ediv_mul_cancel gt
  have ua : l / a * a = l := Int.ediv_mul_cancel F.xl
  have uc : l / c * c = l := Int.ediv_mul_cancel F.yl
  generalize l / a = u at *
  generalize l / c = v at *
  generalize (u * b - v * e) % t = ap at *
  refine ⟨Int.mul_pos m0 F.l0, G.l0, C.r0, r1, fun x y => ?_⟩
  rw [h1.eq, h2.eq]
  have a0 := h1.a0
  have c0 := h2.a0
  obtain ⟨z1, hz1⟩ := C1
  obtain ⟨z2, hz2⟩ := C2
  constructor
  · rintro ⟨⟨i, j, e1, e2⟩, ⟨i', j', e3, e4⟩⟩
    obtain ⟨w, hw⟩ := F.least x ⟨i, by rw [e1]; exact Int.mul_comm _ _⟩ ⟨i', by rw [e3]; exact Int.mul_comm _ _⟩
    have ei : i = w * u := Int.eq_of_mul_eq_mul_right (show a ≠ 0 by omega) (by rw [← e1, hw, ← ua]; grind)
    have ei' : i' = w * v := Int.eq_of_mul_eq_mul_right (show c ≠ 0 by omega) (by rw [← e3, hw, ← uc]; grind)
    subst ei ei'
    obtain ⟨d', hd'⟩ := G.gx
    obtain ⟨f', hf'⟩ := G.gy
    have k0 : w * u * b + j * (t * d') = w * v * e + j' * (t * f') := by rw [← hd', ← hf', ← e2, ← e4]
    have k2 := alg2 (show ap = (u * b - v * e) - t * s by omega) (alg1 k0)
    have k3 : many * g ∣ w * g := by rw [mg]; exact alg3 hb k2
    obtain ⟨n, hn⟩ : many ∣ w := Int.dvd_of_mul_dvd_mul_right (by omega) k3
    rw [Int.mul_comm] at hn
    subst hn
    have q1 : d ∣ y - n * r := ⟨j - n * z1, by rw [e2]; exact alg4 hz1⟩
    have q2 : f ∣ y - n * r := ⟨j' - n * z2, by rw [e4]; exact alg4 hz2⟩
    obtain ⟨o, ho⟩ := G.least _ q1 q2
    refine ⟨n, o, by rw [hw, Int.mul_comm, Int.mul_assoc], ?_⟩
    have : y = n * r + k * o := by omega
    rw [this, Int.mul_comm k o]
  · rintro ⟨n, o, e1, e2⟩
    obtain ⟨kd, hkd⟩ := G.xl
    obtain ⟨kf, hkf⟩ := G.yl
    refine ⟨⟨n * many * u, n * z1 + o * kd, by rw [e1, ← ua]; simp only [Int.mul_assoc], ?_⟩, ⟨n * many * v, n * z2 + o * kf, by rw [e1, ← uc]; simp only [Int.mul_assoc], ?_⟩⟩
    · rw [e2, hkd]
      exact alg5 hz1
    · rw [e2, show o * k = o * (f * kf) by rw [← hkf]]
      exact alg5 hz2
end Nk66

namespace Nk66
def Jn (L M : Int → Int → Prop) (x y : Int) : Prop := ∃ u v, L u v ∧ M (x - u) (y - v)
theorem span_jn {S T : List (Int × Int)} (x y : Int) : Span (S ++ T) x y ↔ Jn (Span S) (Span T) x y := by
  have hL : Lat (Jn (Span S) (Span T)) := by
    have l1 := lat_span S
    have l2 := lat_span T
    refine ⟨⟨0, 0, l1.z, l2.z⟩, ?_, ?_⟩
    · rintro x y x' y' ⟨u, v, h1, h2⟩ ⟨u', v', h3, h4⟩
      refine ⟨u + u', v + v', l1.add h1 h3, ?_⟩
      have := l2.add h2 h4
      rw [show x + x' - (u + u') = x - u + (x' - u') by omega, show y + y' - (v + v') = y - v + (y' - v') by omega]
      exact this
    · rintro k x y ⟨u, v, h1, h2⟩
      refine ⟨k * u, k * v, l1.mul k h1, ?_⟩
      have := l2.mul k h2
      rw [Int.mul_sub, Int.mul_sub] at this
      exact this
  constructor
  · refine span_app hL (fun x y h => ⟨x, y, h, ?_⟩) (fun x y h => ⟨0, 0, (lat_span S).z, by simpa using h⟩)
    rw [Int.sub_self, Int.sub_self]
    exact (lat_span T).z
  · rintro ⟨u, v, h1, h2⟩
    have := (lat_span (S ++ T)).add (span_left (T := T) h1) (span_right (S := S) h2)
    rw [show u + (x - u) = x by omega, show v + (y - v) = y by omega] at this
    exact this
theorem span_two {a b d : Int} (x y : Int) : Span [(a, b), (0, d)] x y ↔ InH a b d x y := by
  constructor
  · rintro ⟨i, j, h⟩
    obtain ⟨h1, h2⟩ : x - i * a - j * 0 = 0 ∧ y - i * b - j * d = 0 := h
    exact ⟨i, j, by omega, by omega⟩
  · rintro ⟨i, j, h1, h2⟩
    exact ⟨i, j, show x - i * a - j * 0 = 0 by omega, show y - i * b - j * d = 0 by omega⟩
theorem Hn.lat {L : Int → Int → Prop} {a b d : Int} (h : Hn L a b d) : Lat L := by
  have l := lat_inH a b d
  refine ⟨(h.eq _ _).mpr l.z, fun p q => (h.eq _ _).mpr (l.add ((h.eq _ _).mp p) ((h.eq _ _).mp q)), fun k _ _ p => (h.eq _ _).mpr (l.mul k ((h.eq _ _).mp p))⟩
/-- one lattice in another -/
theorem sub_dvd {L M : Int → Int → Prop} {a b d c e f : Int} (h1 : Hn L a b d) (h2 : Hn M c e f) (hs : ∀ x y, M x y → L x y) : a ∣ c ∧ d ∣ f ∧ ∃ i j, c = i * a ∧ e = i * b + j * d := by
  obtain ⟨i, j, e1, e2⟩ := (h1.eq _ _).mp (hs _ _ ((h2.eq _ _).mpr (inH_1 c e f)))
  obtain ⟨j', e3⟩ := ((h1.eq _ _).mp (hs _ _ ((h2.eq _ _).mpr (inH_2 c e f)))).zero h1.a0
  exact ⟨⟨i, by rw [e1]; exact Int.mul_comm _ _⟩, ⟨j', by rw [e3]; exact Int.mul_comm _ _⟩, i, j, e1, e2⟩
theorem sub_ix {L M : Int → Int → Prop} {a b d c e f : Int} (h1 : Hn L a b d) (h2 : Hn M c e f) (hs : ∀ x y, M x y → L x y) : a * d ∣ c * f := by
  obtain ⟨k1, k2, _⟩ := sub_dvd h1 h2 hs
  exact Int.mul_dvd_mul k1 k2
theorem sub_same {L M : Int → Int → Prop} {a b d c e f : Int} (h1 : Hn L a b d) (h2 : Hn M c e f) (hs : ∀ x y, M x y → L x y) (hi : a * d = c * f) : a = c ∧ b = e ∧ d = f := by
  obtain ⟨⟨u, hu⟩, ⟨v, hv⟩, i, j, e1, e2⟩ := sub_dvd h1 h2 hs
  have a0 := h1.a0
  have d0 := h1.d0
  have c0 := h2.a0
  have f0 := h2.d0
  have k1 : a ≤ c := Int.le_of_dvd c0 ⟨u, hu⟩
  have k2 : d ≤ f := Int.le_of_dvd f0 ⟨v, hv⟩
  have ac : a = c := by
    rcases Int.lt_or_le a c with z | z
    · have h1 : a * f < c * f := Int.mul_lt_mul_of_pos_right z f0
      have h2 : a * d ≤ a * f := Int.mul_le_mul_of_nonneg_left k2 (by omega)
      omega
    · omega
  subst ac
  have df : d = f := Int.eq_of_mul_eq_mul_left (by omega) hi
  subst df
  have i1 : i = 1 := Int.eq_of_mul_eq_mul_right (show a ≠ 0 by omega) (by rw [← e1, Int.one_mul])
  subst i1
  have := res_eq (j := j) h2.b0 h2.bd h1.b0 h1.bd (by rw [e2, Int.one_mul])
  exact ⟨rfl, this.symm, rfl⟩
theorem jn_left {L M : Int → Int → Prop} (hM : Lat M) {x y : Int} (h : L x y) : Jn L M x y := ⟨x, y, h, by rw [Int.sub_self, Int.sub_self]; exact hM.z⟩
theorem jn_right {L M : Int → Int → Prop} (hL : Lat L) {x y : Int} (h : M x y) : Jn L M x y := ⟨0, 0, hL.z, by simpa using h⟩
theorem pos_of_mul {x y : Int} (hy : 0 < y) (h : 0 < x * y) : 0 < x := by
  rcases Int.lt_or_le 0 x with z | z
  · exact z
  · have := Int.mul_nonpos_of_nonpos_of_nonneg z (Int.le_of_lt hy)
    omega
/-- the joint lattice's flat pair -/
theorem joint_hn {L M : Int → Int → Prop} {a b d c e f a' b' d' : Int} (h1 : Hn L a b d) (h2 : Hn M c e f) (h : Hn (Jn L M) a' b' d') :
    a' = (Int.gcd a c : Nat) ∧ d' = (Int.gcd ((Int.gcd d f : Nat) : Int) ((lc a c / a * b - lc a c / c * e) % ((Int.gcd d f : Nat) : Int)) : Nat) := by
  have F := lc_facts h1.a0 h2.a0
  have G := lc_facts h1.d0 h2.d0
  have lL := h1.lat
  have lM := h2.lat
  obtain ⟨ja, jd, _⟩ := sub_dvd h h1 (fun x y z => jn_left lM z)
  obtain ⟨jc, jf, _⟩ := sub_dvd h h2 (fun x y z => jn_right lL z)
  have a0 := h.a0
  have d0 := h.d0
  have ha := h1.a0
  have hc := h2.a0
  constructor
  · refine Int.le_antisymm (Int.le_of_dvd F.g0 (Int.dvd_coe_gcd ja jc)) (Int.le_of_dvd a0 ?_)
    obtain ⟨u, v, hu, hv⟩ := (h.eq _ _).mpr (inH_1 a' b' d')
    obtain ⟨i, j, e1, e2⟩ := (h1.eq _ _).mp hu
    obtain ⟨k, l, e3, e4⟩ := (h2.eq _ _).mp hv
    have : a' = i * a + k * c := by omega
    rw [this]
    exact Int.dvd_add (Int.dvd_mul_of_dvd_right F.gx) (Int.dvd_mul_of_dvd_right F.gy)
  · generalize hl : lc a c = l at *
    have ua : l / a * a = l := Int.ediv_mul_cancel F.xl
    have uc : l / c * c = l := Int.ediv_mul_cancel F.yl
    generalize l / a = u at *
    generalize l / c = v at *
    have dt : d' ∣ ((Int.gcd d f : Nat) : Int) := Int.dvd_coe_gcd jd jf
    have t0 := G.g0
    have td := G.gx
    have tf := G.gy
    generalize ((Int.gcd d f : Nat) : Int) = t at *
    obtain ⟨s, hs⟩ := emod_dvd (x := u * b - v * e) (t := t)
    have dap : d' ∣ u * b - v * e := by
      have z1 := lL.mul u ((h1.eq _ _).mpr (inH_1 a b d))
      have z2 := lM.mul (-v) ((h2.eq _ _).mpr (inH_1 c e f))
      have z3 : Jn L M 0 (u * b - v * e) := ⟨u * a, u * b, z1, by
        rw [show 0 - u * a = -v * c by rw [Int.neg_mul]; omega, show u * b - v * e - u * b = -v * e by rw [Int.neg_mul]; omega]
        exact z2⟩
      obtain ⟨j, hj⟩ := ((h.eq _ _).mp z3).zero a0
      exact ⟨j, by rw [hj]; exact Int.mul_comm _ _⟩
    have dm : d' ∣ (u * b - v * e) % t := by
      have : (u * b - v * e) % t = (u * b - v * e) - t * s := by omega
      rw [this]
      exact Int.dvd_sub dap (Int.dvd_mul_of_dvd_left dt)
    have gt : ((Int.gcd t ((u * b - v * e) % t) : Nat) : Int) ∣ t := Int.gcd_dvd_left _ _
    have gm : ((Int.gcd t ((u * b - v * e) % t) : Nat) : Int) ∣ (u * b - v * e) % t := Int.gcd_dvd_right _ _
    have g0 : 0 < ((Int.gcd t ((u * b - v * e) % t) : Nat) : Int) := by
      have := Int.gcd_pos_of_ne_zero_left ((u * b - v * e) % t) (show t ≠ 0 by omega)
      omega
    refine Int.le_antisymm (Int.le_of_dvd g0 (Int.dvd_coe_gcd dt dm)) (Int.le_of_dvd d0 ?_)
    generalize ((Int.gcd t ((u * b - v * e) % t) : Nat) : Int) = g at *
    have gap : g ∣ u * b - v * e := by
      have : u * b - v * e = (u * b - v * e) % t + t * s := by omega
      rw [this]
      exact Int.dvd_add gm (Int.dvd_mul_of_dvd_left gt)
    obtain ⟨x', y', hu, hv⟩ := (h.eq _ _).mpr (inH_2 a' b' d')
    obtain ⟨i, j, e1, e2⟩ := (h1.eq _ _).mp hu
    obtain ⟨k, l', e3, e4⟩ := (h2.eq _ _).mp hv
    obtain ⟨w, hw⟩ := F.least x' ⟨i, by rw [e1]; exact Int.mul_comm _ _⟩ ⟨-k, by rw [Int.mul_neg, Int.mul_comm c k]; omega⟩
    have ei : i = w * u := Int.eq_of_mul_eq_mul_right (show a ≠ 0 by omega) (by rw [← e1, hw, ← ua, Int.mul_comm, Int.mul_assoc])
    have ek : k = -(w * v) := Int.eq_of_mul_eq_mul_right (show c ≠ 0 by omega) (by
      rw [← e3, Int.neg_mul, Int.mul_assoc, uc, Int.mul_comm w l, ← hw]; omega)
    have : d' = w * (u * b - v * e) + j * d + l' * f := by
      have h5 : d' = i * b + j * d + (k * e + l' * f) := by omega
      rw [h5, ei, ek, Int.mul_sub, Int.neg_mul, Int.mul_assoc, Int.mul_assoc]
      omega
    rw [this]
    exact Int.dvd_add (Int.dvd_add (Int.dvd_mul_of_dvd_right gap) (Int.dvd_mul_of_dvd_right (Int.dvd_trans gt td))) (Int.dvd_mul_of_dvd_right (Int.dvd_trans gt tf))
end Nk66

namespace Nk66
theorem mul_pos_mg {t g many : Int} (g0 : 0 < g) (t0 : 0 < t) (h : many * g = t) : 0 < many := pos_of_mul g0 (by rw [h]; exact t0)
/-- joint and shared: the indices -/
theorem index_law {L M : Int → Int → Prop} {a b d c e f a' b' d' A B D : Int} (h1 : Hn L a b d) (h2 : Hn M c e f) (h : Hn (Jn L M) a' b' d') {many : Int} (hm : many = ((Int.gcd d f : Nat) : Int) / (Int.gcd ((Int.gcd d f : Nat) : Int) ((lc a c / a * b - lc a c / c * e) % ((Int.gcd d f : Nat) : Int)) : Nat))
    (hA : A = many * lc a c) (hD : D = lc d f) : a' * d' * (A * D) = a * d * (c * f) := by
  obtain ⟨ea, ed⟩ := joint_hn h1 h2 h
  have F := lc_facts h1.a0 h2.a0
  have G := lc_facts h1.d0 h2.d0
  have gt : ((Int.gcd ((Int.gcd d f : Nat) : Int) ((lc a c / a * b - lc a c / c * e) % ((Int.gcd d f : Nat) : Int)) : Nat) : Int) ∣ ((Int.gcd d f : Nat) : Int) := Int.gcd_dvd_left _ _
  rw [← ed] at hm gt
  have mg := Int.ediv_mul_cancel gt
  rw [← hm] at mg
  have l1 := F.lg
  have l2 := G.lg
  rw [← ea] at l1
  rw [hA, hD]
  have e1 : a' * d' * (many * lc a c * lc d f) = (lc a c * a') * (lc d f * (many * d')) := by grind
  rw [e1, mg, l1, l2]
  grind
/-- the gcd of all the crosses -/
theorem cross_gcd {S : List (Int × Int)} {a b d G : Int} (h : Hn (Span S) a b d) (G0 : 0 ≤ G) (h1 : ∀ p ∈ S, ∀ q ∈ S, G ∣ p.1 * q.2 - p.2 * q.1) (h2 : a * d ∣ G) : G = a * d := by
  have k1 : ∀ p ∈ S, ∀ x y, Span S x y → G ∣ p.1 * y - p.2 * x := fun p hp => by
    have hL : Lat (fun x y => G ∣ p.1 * y - p.2 * x) := by
      refine ⟨by simp, ?_, ?_⟩
      · intro x y x' y' z1 z2
        have := Int.dvd_add z1 z2
        rw [show p.1 * (y + y') - p.2 * (x + x') = p.1 * y - p.2 * x + (p.1 * y' - p.2 * x') by rw [Int.mul_add, Int.mul_add]; omega]
        exact this
      · intro k x y z1
        rw [show p.1 * (k * y) - p.2 * (k * x) = k * (p.1 * y - p.2 * x) by rw [Int.mul_sub, Int.mul_left_comm, Int.mul_left_comm p.2]]
        exact Int.dvd_mul_of_dvd_right z1
    exact fun x y z => span_le hL (fun q hq => h1 p hp q hq) z
  have k2 : ∀ x y x' y', Span S x y → Span S x' y' → G ∣ x * y' - y * x' := fun x y x' y' z1 z2 => by
    have hL : Lat (fun x y => G ∣ x * y' - y * x') := by
      refine ⟨by simp, ?_, ?_⟩
      · intro x y x2 y2 z1 z2
        have := Int.dvd_add z1 z2
        rw [show (x + x2) * y' - (y + y2) * x' = x * y' - y * x' + (x2 * y' - y2 * x') by rw [Int.add_mul, Int.add_mul]; omega]
        exact this
      · intro k x y z1
        rw [show k * x * y' - k * y * x' = k * (x * y' - y * x') by rw [Int.mul_sub, Int.mul_assoc, Int.mul_assoc]]
        exact Int.dvd_mul_of_dvd_right z1
    exact span_le hL (fun p hp => k1 p hp x' y' z2) z1
  have := k2 a b 0 d ((h.eq _ _).mpr (inH_1 a b d)) ((h.eq _ _).mpr (inH_2 a b d))
  rw [Int.mul_zero, Int.sub_zero] at this
  have p0 := Int.mul_pos h.a0 h.d0
  have G1 : 0 < G := by
    rcases Int.lt_or_le 0 G with z | z
    · exact z
    · have : G = 0 := by omega
      subst this
      have := Int.zero_dvd.mp this
      omega
  exact Int.le_antisymm (Int.le_of_dvd p0 this) (Int.le_of_dvd G1 h2)
/-! ### multiples -/
def Ml (m : Int) (L : Int → Int → Prop) (x y : Int) : Prop := ∃ u v, L u v ∧ x = m * u ∧ y = m * v
theorem inH_ml {a b d m x y : Int} : InH (m * a) (m * b) (m * d) x y ↔ Ml m (InH a b d) x y := by
  constructor
  · rintro ⟨i, j, e1, e2⟩
    exact ⟨i * a, i * b + j * d, ⟨i, j, rfl, rfl⟩, by rw [e1]; exact Int.mul_left_comm _ _ _, by rw [e2, Int.mul_add, Int.mul_left_comm, Int.mul_left_comm j]⟩
  · rintro ⟨u, v, ⟨i, j, rfl, rfl⟩, rfl, rfl⟩
    exact ⟨i, j, Int.mul_left_comm _ _ _, by rw [Int.mul_add, Int.mul_left_comm, Int.mul_left_comm m j]⟩
theorem jn_ml {L : Int → Int → Prop} (hL : Lat L) {m k : Int} (m0 : 0 < m) (k0 : 0 < k) (x y : Int) : Jn (Ml m L) (Ml k L) x y ↔ Ml (Int.gcd m k : Nat) L x y := by
  have F := lc_facts m0 k0
  obtain ⟨m', hm⟩ := F.gx
  obtain ⟨k', hk⟩ := F.gy
  obtain ⟨p, q, hb⟩ := F.bz
  generalize ((Int.gcd m k : Nat) : Int) = g at *
  constructor
  · rintro ⟨x', y', ⟨u, v, h1, e1, e2⟩, ⟨u', v', h2, e3, e4⟩⟩
    refine ⟨m' * u + k' * u', m' * v + k' * v', hL.add (hL.mul _ h1) (hL.mul _ h2), ?_, ?_⟩
    · have : x = m * u + k * u' := by omega
      rw [this, hm, hk]; grind
    · have : y = m * v + k * v' := by omega
      rw [this, hm, hk]; grind
  · rintro ⟨u, v, h, e1, e2⟩
    refine ⟨m * (p * u), m * (p * v), ⟨_, _, hL.mul p h, rfl, rfl⟩, ⟨_, _, hL.mul q h, ?_, ?_⟩⟩
    · rw [e1, ← hb]; grind
    · rw [e2, ← hb]; grind
theorem cap_ml {L : Int → Int → Prop} (hL : Lat L) {m k : Int} (m0 : 0 < m) (k0 : 0 < k) (x y : Int) : (Ml m L x y ∧ Ml k L x y) ↔ Ml (lc m k) L x y := by
  have F := lc_facts m0 k0
  have g0 := F.g0
  obtain ⟨m', hm⟩ := F.gx
  obtain ⟨k', hk⟩ := F.gy
  obtain ⟨p, q, hb⟩ := F.bz
  have lg := F.lg
  obtain ⟨s, hs⟩ := F.xl
  obtain ⟨t, ht⟩ := F.yl
  generalize ((Int.gcd m k : Nat) : Int) = g at *
  generalize lc m k = l at *
  have lk : l = m * k' := Int.eq_of_mul_eq_mul_right (show g ≠ 0 by omega) (by rw [lg, hk]; grind)
  have b1 : p * m' + q * k' = 1 := Int.eq_of_mul_eq_mul_left (show g ≠ 0 by omega) (by
    have : g * (p * m' + q * k') = p * (g * m') + q * (g * k') := by grind
    rw [this, ← hm, ← hk, hb]; simp)
  have key : ∀ u v : Int, m * u = k * v → m * u = l * (p * v + q * u) := fun u v e => by
    have e1 : m' * u = k' * v := Int.eq_of_mul_eq_mul_left (show g ≠ 0 by omega) (by rw [← Int.mul_assoc, ← Int.mul_assoc, ← hm, ← hk]; exact e)
    have e2 : u = k' * (p * v + q * u) := by
      have : u = (p * m' + q * k') * u := by rw [b1]; simp
      have h3 : (p * m' + q * k') * u = p * (m' * u) + q * k' * u := by grind
      rw [h3, e1] at this
      have h4 : p * (k' * v) + q * k' * u = k' * (p * v + q * u) := by grind
      rw [h4] at this
      exact this
    rw [lk, Int.mul_assoc, ← e2]
  constructor
  · rintro ⟨⟨u, v, h1, e1, e2⟩, ⟨u', v', h2, e3, e4⟩⟩
    exact ⟨p * u' + q * u, p * v' + q * v, hL.add (hL.mul p h2) (hL.mul q h1), by rw [e1]; exact key _ _ (by rw [← e1, e3]), by rw [e2]; exact key _ _ (by rw [← e2, e4])⟩
  · rintro ⟨u, v, h, e1, e2⟩
    exact ⟨⟨s * u, s * v, hL.mul s h, by rw [e1, hs, Int.mul_assoc], by rw [e2, hs, Int.mul_assoc]⟩, ⟨t * u, t * v, hL.mul t h, by rw [e1, ht, Int.mul_assoc], by rw [e2, ht, Int.mul_assoc]⟩⟩
/-! ### three lattices -/
theorem jn_congr {L M L' M' : Int → Int → Prop} (h1 : ∀ x y, L x y ↔ L' x y) (h2 : ∀ x y, M x y ↔ M' x y) (x y : Int) : Jn L M x y ↔ Jn L' M' x y := by
  constructor
  · rintro ⟨u, v, a, b⟩; exact ⟨u, v, (h1 _ _).mp a, (h2 _ _).mp b⟩
  · rintro ⟨u, v, a, b⟩; exact ⟨u, v, (h1 _ _).mpr a, (h2 _ _).mpr b⟩
theorem jn_comm {L M : Int → Int → Prop} (x y : Int) : Jn L M x y ↔ Jn M L x y := by
  constructor
  · rintro ⟨u, v, a, b⟩; exact ⟨x - u, y - v, b, by rw [show x - (x - u) = u by omega, show y - (y - v) = v by omega]; exact a⟩
  · rintro ⟨u, v, a, b⟩; exact ⟨x - u, y - v, b, by rw [show x - (x - u) = u by omega, show y - (y - v) = v by omega]; exact a⟩
theorem jn_self {L : Int → Int → Prop} (h : Lat L) (x y : Int) : Jn L L x y ↔ L x y := by
  constructor
  · rintro ⟨u, v, a, b⟩
    have := h.add a b
    rw [show u + (x - u) = x by omega, show v + (y - v) = y by omega] at this
    exact this
  · exact jn_left h
theorem jn_assoc {L M N : Int → Int → Prop} (x y : Int) : Jn (Jn L M) N x y ↔ Jn L (Jn M N) x y := by
  constructor
  · rintro ⟨u, v, ⟨u', v', a, b⟩, c⟩
    exact ⟨u', v', a, ⟨u - u', v - v', b, by rw [show x - u' - (u - u') = x - u by omega, show y - v' - (v - v') = y - v by omega]; exact c⟩⟩
  · rintro ⟨u, v, a, ⟨u', v', b, c⟩⟩
    exact ⟨u + u', v + v', ⟨u, v, a, by rw [show u + u' - u = u' by omega, show v + v' - v = v' by omega]; exact b⟩, by rw [show x - (u + u') = x - u - u' by omega, show y - (v + v') = y - v - v' by omega]; exact c⟩
theorem jn_mod {X M N : Int → Int → Prop} (hN : Lat N) (hX : ∀ x y, X x y → N x y) (x y : Int) : Jn X (fun x y => M x y ∧ N x y) x y ↔ (Jn X M x y ∧ N x y) := by
  constructor
  · rintro ⟨u, v, a, b, c⟩
    refine ⟨⟨u, v, a, b⟩, ?_⟩
    have := hN.add (hX _ _ a) c
    rw [show u + (x - u) = x by omega, show v + (y - v) = y by omega] at this
    exact this
  · rintro ⟨⟨u, v, a, b⟩, c⟩
    exact ⟨u, v, a, b, hN.sub c (hX _ _ a)⟩
end Nk66

namespace Nk66
open PySem PySem.Spec PyProof.Rows L2 DL
variable [Clss]
theorem lc_bd {x y : Int} {k m : Nat} (hx : 0 < x) (hy : 0 < y) (h1 : Bd k x) (h2 : Bd m y) : Bd (k + 1 + m) (lc x y) := (ediv_bd (lc_facts hx hy).g0 h1).mul h2
theorem sp_least_common {x y : Int} {P : D → Prop} (hx : 0 < x) (hy : 0 < y) (h1 : Bd 101 x) (h2 : Bd 101 y) (h : P (.int (lc x y))) : C_least_common [.int x, .int y] P := by
  refine u_least_common ?_
  have F := lc_facts hx hy
  have Bg : Bd 101 ((Int.gcd x y : Nat) : Int) := bd_gcd hy h2
  simp [t_least_common]
  refine sp_common_divisor ?_
  simp
  exact ⟨divB F.g0 Bg (by omega), mulB (ediv_bd F.g0 h1) h2 (by omega) (by omega), h⟩
theorem meet_facts {d f s1 s2 g p q l : Int} (F : LcF d f l g) (hb : p * d + q * f = g) (hd : g ∣ s2 - s1) : 0 ≤ (s1 + (s2 - s1) / g * p * d) % l ∧ (s1 + (s2 - s1) / g * p * d) % l < l ∧ d ∣ (s1 + (s2 - s1) / g * p * d) % l - s1 ∧ f ∣ (s1 + (s2 - s1) / g * p * d) % l - s2 := by
  have l0 := F.l0
  have g0 := F.g0
  obtain ⟨K, hK⟩ := hd
  have e : (s2 - s1) / g = K := by rw [hK]; exact Int.mul_ediv_cancel_left _ (by omega)
  rw [e]
  have ee := Int.mul_ediv_add_emod (s1 + K * p * d) l
  obtain ⟨u, hu⟩ := F.xl
  obtain ⟨v, hv⟩ := F.yl
  refine ⟨Int.emod_nonneg _ (by omega), Int.emod_lt_of_pos _ l0, ?_⟩
  generalize (s1 + K * p * d) / l = z at *
  generalize (s1 + K * p * d) % l = r at *
  constructor
  · refine ⟨K * p - u * z, ?_⟩
    rw [hu] at ee
    rw [Int.mul_sub, ← Int.mul_assoc d u z, Int.mul_comm d (K * p)]
    omega
  · refine ⟨-(K * q) - v * z, ?_⟩
    rw [hv] at ee
    have : K * p * d = g * K - K * q * f := by rw [← hb]; grind
    rw [Int.mul_sub, ← Int.mul_assoc f v z, Int.mul_neg, Int.mul_comm f (K * q)]
    omega
theorem sp_meeting {d f s1 s2 : Int} {P : D → Prop} (d0 : 0 < d) (f0 : 0 < f) (Bd1 : Bd 101 d) (Bf : Bd 101 f) (B1 : Bd 900 s1) (B2 : Bd 900 s2) (hd : ((Int.gcd d f : Nat) : Int) ∣ s2 - s1)
    (h : ∀ r, 0 ≤ r → r < lc d f → d ∣ r - s1 → f ∣ r - s2 → P (.int r)) : C_meeting_remainder [.int d, .int f, .int s1, .int s2] P := by
  refine u_meeting_remainder ?_
  have F := lc_facts d0 f0
  have Bg : Bd 101 ((Int.gcd d f : Nat) : Int) := bd_gcd f0 Bf
  simp [t_meeting_remainder]
  refine sp_common_divisor ?_
  refine sp_makers_in d0 f0 Bd1 Bf (fun p q hb Bp Bq => ?_)
  simp
  obtain ⟨k1, k2, k3, k4⟩ := meet_facts F hb hd
  have B3 : Bd 1802 ((s2 - s1) / ((Int.gcd d f : Nat) : Int)) := ediv_bd F.g0 (B2.sub B1)
  have B4 : Bd 1903 ((s2 - s1) / ((Int.gcd d f : Nat) : Int) * p) := B3.mul Bp
  have := h _ k1 k2 k3 k4
  refine ⟨divB F.g0 Bg (by omega), mulB B3 Bp (by omega) (by omega), mulB B4 Bd1 (by omega) (by omega), sp_least_common d0 f0 Bd1 Bf ?_⟩
  exact ⟨F.l0, this⟩
/-- what the shared pair's program finds -/
structure Shp (a b d c e f A B D : Int) (many : Int) : Prop where
  hm : many = ((Int.gcd d f : Nat) : Int) / (Int.gcd ((Int.gcd d f : Nat) : Int) ((lc a c / a * b - lc a c / c * e) % ((Int.gcd d f : Nat) : Int)) : Nat)
  hA : A = many * lc a c
  hD : D = lc d f
  cap : Cap a b d c e f many B
theorem many_pos {d f x : Int} (d0 : 0 < d) (f0 : 0 < f) : 0 < (Int.gcd ((Int.gcd d f : Nat) : Int) x : Nat) ∧ 0 < ((Int.gcd d f : Nat) : Int) / (Int.gcd ((Int.gcd d f : Nat) : Int) x : Nat) ∧ ((Int.gcd d f : Nat) : Int) / (Int.gcd ((Int.gcd d f : Nat) : Int) x : Nat) * (Int.gcd ((Int.gcd d f : Nat) : Int) x : Nat) = ((Int.gcd d f : Nat) : Int) := by
  have F := lc_facts d0 f0
  have g0 := F.g0
  generalize ((Int.gcd d f : Nat) : Int) = t at *
  have gt : ((Int.gcd t x : Nat) : Int) ∣ t := Int.gcd_dvd_left _ _
  have h0 := Int.gcd_pos_of_ne_zero_left x (show t ≠ 0 by omega)
  have mg := Int.ediv_mul_cancel gt
  exact ⟨h0, mul_pos_mg (g := ((Int.gcd t x : Nat) : Int)) (by omega) g0 mg, mg⟩
theorem sp_shared_pair {S T : List (Int × Int)} {P : D → Prop} (g : Grid S) (g' : Grid T) (h : ∀ a b d c e f A B D many, Hn (Span S) a b d → Hn (Span T) c e f → Shp a b d c e f A B D many → P (pd A B D)) : C_shared_pair [gD S, gD T] P := by
  refine u_shared_pair ?_
  unfold t_shared_pair
  simp
  refine sp_grid_pair_in g (fun a b d R1 => ?_)
  unfold pd
  simp
  refine sp_grid_pair_in g' (fun c e f R2 => ?_)
  have a0 := R1.a0
  have d0 := R1.d0
  have b0 := R1.b0
  have b1 := R1.bd
  have c0 := R2.a0
  have f0 := R2.d0
  have e0 := R2.b0
  have e1 := R2.bd
  obtain ⟨i1, i2⟩ := hn_bd g R1
  obtain ⟨i3, i4⟩ := hn_bd g' R2
  have Ba : Bd 101 a := bdI (by omega)
  have Bb : Bd 101 b := bdI (by omega)
  have Bd1 : Bd 101 d := bdI (by omega)
  have Bc : Bd 101 c := bdI (by omega)
  have Be : Bd 101 e := bdI (by omega)
  have Bf : Bd 101 f := bdI (by omega)
  unfold pd
  simp
  refine sp_least_common a0 c0 Ba Bc (sp_common_divisor ?_)
  have F := lc_facts a0 c0
  have G := lc_facts d0 f0
  have Bl : Bd 203 (lc a c) := lc_bd a0 c0 Ba Bc
  have Bt : Bd 101 ((Int.gcd d f : Nat) : Int) := bd_gcd f0 Bf
  have Bu : Bd 204 (lc a c / a) := ediv_bd a0 Bl
  have Bv : Bd 204 (lc a c / c) := ediv_bd c0 Bl
  simp
  refine ⟨divB a0 Ba (by omega), mulB Bu Bb (by omega) (by omega), divB c0 Bc (by omega), mulB Bv Be (by omega) (by omega), .inl (by omega), sp_common_divisor ?_⟩
  obtain ⟨m1, m2, m3⟩ := many_pos (x := (lc a c / a * b - lc a c / c * e) % ((Int.gcd d f : Nat) : Int)) d0 f0
  have hmm : ∀ many, many = ((Int.gcd d f : Nat) : Int) / (Int.gcd ((Int.gcd d f : Nat) : Int) ((lc a c / a * b - lc a c / c * e) % ((Int.gcd d f : Nat) : Int)) : Nat) → ∀ B, Cap a b d c e f many B → P (pd (many * lc a c) B (lc d f)) := fun many hm B C => h a b d c e f _ _ _ many R1 R2 ⟨hm, rfl, rfl, C⟩
  simp
  have t0 := G.g0
  have gm : ((Int.gcd ((Int.gcd d f : Nat) : Int) ((lc a c / a * b - lc a c / c * e) % ((Int.gcd d f : Nat) : Int)) : Nat) : Int) ∣ (lc a c / a * b - lc a c / c * e) % ((Int.gcd d f : Nat) : Int) := Int.gcd_dvd_right _ _
  have Bgg : Bd 101 ((Int.gcd ((Int.gcd d f : Nat) : Int) ((lc a c / a * b - lc a c / c * e) % ((Int.gcd d f : Nat) : Int)) : Nat) : Int) := by
    refine Bt.le ?_
    have := Int.le_of_dvd t0 (Int.gcd_dvd_left ((Int.gcd d f : Nat) : Int) ((lc a c / a * b - lc a c / c * e) % ((Int.gcd d f : Nat) : Int)))
    omega
  have m1' : 0 < ((Int.gcd ((Int.gcd d f : Nat) : Int) ((lc a c / a * b - lc a c / c * e) % ((Int.gcd d f : Nat) : Int)) : Nat) : Int) := by omega
  have hs := emod_dvd (x := lc a c / a * b - lc a c / c * e) (t := ((Int.gcd d f : Nat) : Int))
  generalize ((Int.gcd ((Int.gcd d f : Nat) : Int) ((lc a c / a * b - lc a c / c * e) % ((Int.gcd d f : Nat) : Int)) : Nat) : Int) = gg at *
  have Bm : Bd 102 (((Int.gcd d f : Nat) : Int) / gg) := ediv_bd m1' Bt
  generalize hmany : ((Int.gcd d f : Nat) : Int) / gg = many at *
  have B1 : Bd 306 (many * (lc a c / a)) := Bm.mul Bu
  have B2 : Bd 306 (many * (lc a c / c)) := Bm.mul Bv
  have B3 : Bd 407 (many * (lc a c / a) * b) := B1.mul Bb
  have B4 : Bd 407 (many * (lc a c / c) * e) := B2.mul Be
  refine ⟨divB m1' Bgg (by omega), divB a0 Ba (by omega), mulB Bm Bu (by omega) (by omega), mulB B1 Bb (by omega) (by omega), divB c0 Bc (by omega), mulB Bm Bv (by omega) (by omega), mulB B2 Be (by omega) (by omega), mulB Bm Bl (by omega) (by omega), sp_meeting d0 f0 Bd1 Bf (B3.mono (by omega)) (B4.mono (by omega)) ?_ (fun r r0 r1 r2 r3 => ?_)⟩
  · obtain ⟨s, hs⟩ := hs
    obtain ⟨w, hw⟩ := gm
    refine ⟨-(w + many * s), ?_⟩
    have : many * (lc a c / a * b - lc a c / c * e) = ((Int.gcd d f : Nat) : Int) * (w + many * s) := by
      have e2 : lc a c / a * b - lc a c / c * e = gg * w + ((Int.gcd d f : Nat) : Int) * s := by omega
      rw [e2, Int.mul_add, ← Int.mul_assoc, m3, Int.mul_add, Int.mul_left_comm]
    rw [Int.mul_neg, ← this, Int.mul_sub, Int.mul_assoc, Int.mul_assoc]
    omega
  · refine sp_least_common d0 f0 Bd1 Bf ?_
    have := hmm many rfl r ⟨m2, r0, r1, r2, r3⟩
    unfold pd at this
    exact this
theorem sp_shared_grid {S T : List (Int × Int)} {P : D → Prop} (g : Grid S) (g' : Grid T) (h : ∀ a b d c e f A B D many, Hn (Span S) a b d → Hn (Span T) c e f → Shp a b d c e f A B D many → P (pd A B D)) : C_shared_grid [gD S, gD T] P := by
  refine u_shared_grid ?_
  simp [t_shared_grid]
  exact sp_require_grids g g' (sp_shared_pair g g' h)
end Nk66

namespace Nk66
open PySem PySem.Spec PyProof.Rows L2 DL
theorem erase_map {α β : Type} {f : α → β} : ∀ (A : List α) (j : Nat), (A.map f).eraseIdx j = (A.eraseIdx j).map f
  | [], _ => rfl
  | _ :: _, 0 => rfl
  | a :: r, j + 1 => by
    rw [List.map_cons, List.eraseIdx_cons_succ, List.eraseIdx_cons_succ, List.map_cons, erase_map r j]
theorem mem_erase {α : Type} : ∀ (A : List α) (j : Nat) (c : α), A[j]? = some c → ∀ p, p ∈ A ↔ p = c ∨ p ∈ A.eraseIdx j
  | [], _, _, h, _ => by simp at h
  | a :: r, 0, c, h, p => by
    have : a = c := by simpa using h
    subst this
    simp
  | a :: r, j + 1, c, h, p => by
    have ih := mem_erase r j c (by simpa using h) p
    rw [List.eraseIdx_cons_succ, List.mem_cons, List.mem_cons, ih]
    constructor
    · rintro (z | z | z)
      · exact .inr (.inl z)
      · exact .inl z
      · exact .inr (.inr z)
    · rintro (z | z | z)
      · exact .inr (.inl z)
      · exact .inl z
      · exact .inr (.inr z)
theorem shaped_pts (A : List (Int × Int)) : SeqAt.shaped (.list (A.map pt)) = true := by
  have : ∀ d ∈ A.map pt, Pl 1 d := fun d hd => by
    rw [List.mem_map] at hd
    obtain ⟨p, _, rfl⟩ := hd
    exact pl_pair
  exact (pl_list this).sh (by decide)
theorem ixN_nat' {m n : Nat} (h : n < m) : ixN m (n : Int) = some n := by
  unfold ixN
  simp
  omega
variable [Clss]
theorem sp_drawn {cs : Ow} {most : Int} {P : D → Ow → Prop} (hd : Dice cs) (h1 : 1 ≤ most) (h2 : most ≤ 9) (h : ∀ a b d cs', 1 ≤ a → a ≤ most → 0 ≤ b → b < d → d ≤ most → Dice cs' → P (pd a b d) cs') : C__law_drawn cs [.int most] P := by
  refine u__law_drawn ?_
  simp [t__law_drawn]
  refine sp_roll hd (by omega) (by omega) (fun r1 cs1 a1 a2 d1 => ?_)
  simp
  refine sp_roll d1 (by omega) (by omega) (fun r2 cs2 a3 a4 d2 => ?_)
  simp
  refine sp_roll d2 (by omega) (by omega) (fun r3 cs3 a5 a6 d3 => ?_)
  exact h (1 + r2) r3 (1 + r1) cs3 (by omega) (by omega) a5 a6 (by omega) d3
def MW (L : List (Int × Int)) (m : Nat) (e : DL.Env) : Prop := ∃ (cs : Ow) (A B : List (Int × Int)), e = [.bo cs, .im (.list (L.map pt)), .mu (.lst (A.map pt)), .mu (.lst (B.map pt))] ∧ Dice cs ∧ m = A.length ∧ (∀ p, (p ∈ A ∨ p ∈ B) ↔ p ∈ L) ∧ A.length + B.length = L.length
theorem sp_mixed {cs : Ow} {L : List (Int × Int)} {P : D → Ow → Prop} (hd : Dice cs) (hl : L.length ≤ 100) (h : ∀ (B : List (Int × Int)) cs', (∀ p, p ∈ B ↔ p ∈ L) → B.length = L.length → Dice cs' → P (.list (B.map pt)) cs') : C__law_mixed cs [.list (L.map pt)] P := by
  refine u__law_mixed ?_
  simp [t__law_mixed]
  refine while_by (MW L) ⟨_, cs, L, [], rfl, hd, rfl, by simp, by simp⟩ ?_
  rintro m e ⟨cs', A, B, rfl, hd', rfl, hm, hs⟩
  simp
  refine ⟨shaped_pts A, shaped_pts [], ?_⟩
  cases A with
  | nil =>
    simp [PyData.eqv, PyData.eqvAll]
    exact h B cs' (fun p => by simpa using hm p) (by simpa using hs) hd'
  | cons p r =>
    simp [PyData.eqv, PyData.eqvAll]
    refine sp_roll hd' (by omega) (by simp at hs; omega) (fun k cs2 k0 k1 hd2 => ?_)
    obtain ⟨n, rfl⟩ := Int.eq_ofNat_of_zero_le k0
    have hn : n < (p :: r).length := by simp; omega
    have ec : pt p :: List.map pt r = (p :: r).map pt := rfl
    rw [ec]
    have ei : ixN ((p :: r).map pt).length (n : Int) = some n := by
      rw [List.length_map]
      exact ixN_nat' hn
    have hg : ((p :: r).map pt)[n]? = some (pt (p :: r)[n]) := by rw [List.getElem?_map, List.getElem?_eq_getElem hn]; rfl
    simp only [ei, hg]
    have hs' : (p :: r).length + B.length = L.length := hs
    have hp := mem_erase (p :: r) n _ (List.getElem?_eq_getElem hn)
    have he := List.length_eraseIdx_of_lt hn
    refine ⟨Nat.le_of_lt (sz (by rw [List.length_map]; omega)), sz (by omega), _, ?_, cs2, (p :: r).eraseIdx n, B ++ [(p :: r)[n]], ?_, hd2, rfl, fun q => ?_, ?_⟩
    · rw [he]; simp
    · rw [erase_map, List.map_append]; rfl
    · rw [← hm q, hp q, List.mem_append, List.mem_singleton]
      constructor
      · rintro (z | z | z)
        · exact .inl (.inr z)
        · exact .inr z
        · exact .inl (.inl z)
      · rintro ((z | z) | z)
        · exact .inr (.inr z)
        · exact .inl z
        · exact .inr (.inl z)
    · rw [he, List.length_append, List.length_singleton]; omega
/-! ### the steps of a lattice -/
def Sp2 (o f : Int × Int) (x y : Int) : Prop := ∃ i j : Int, x = i * o.1 + j * f.1 ∧ y = i * o.2 + j * f.2
theorem lat_sp2 (o f : Int × Int) : Lat (Sp2 o f) where
  z := ⟨0, 0, by simp, by simp⟩
  add := fun ⟨i, j, e1, e2⟩ ⟨i', j', e3, e4⟩ => ⟨i + i', j + j', by rw [e1, e3]; grind, by rw [e2, e4]; grind⟩
  mul := fun k _ _ ⟨i, j, e1, e2⟩ => ⟨k * i, k * j, by rw [e1]; grind, by rw [e2]; grind⟩
theorem sp2_turn {o f : Int × Int} {m x y : Int} : Sp2 f (o.1 + m * f.1, o.2 + m * f.2) x y ↔ Sp2 o f x y := by
  constructor
  · rintro ⟨i, j, e1, e2⟩
    exact ⟨j, i + j * m, by rw [e1]; grind, by rw [e2]; grind⟩
  · rintro ⟨i, j, e1, e2⟩
    exact ⟨j - i * m, i, by rw [e1]; grind, by rw [e2]; grind⟩
/-- how large a pair of numbers grows in so many turns -/
def Wb : Nat → Int → Int → Prop
  | 0, o, f => 0 ≤ o ∧ o ≤ 51 ∧ 0 ≤ f ∧ f ≤ 27
  | 1, o, f => 0 ≤ o ∧ o ≤ 27 ∧ -54 ≤ f ∧ f ≤ 105
  | 2, o, f => -54 ≤ o ∧ o ≤ 105 ∧ f ≤ 2 * o.natAbs + 27 ∧ -(2 * (o.natAbs : Int)) ≤ f
  | _, o, f => -1000 ≤ o ∧ o ≤ 1000 ∧ -1000 ≤ f ∧ f ≤ 1000 ∧ -1000 ≤ o + f ∧ o + f ≤ 1000 ∧ -1000 ≤ 2 * o - f ∧ 2 * o - f ≤ 1000
theorem wb0 {o f : Int} : Wb 0 o f = (0 ≤ o ∧ o ≤ 51 ∧ 0 ≤ f ∧ f ≤ 27) := rfl
theorem wb1 {o f : Int} : Wb 1 o f = (0 ≤ o ∧ o ≤ 27 ∧ -54 ≤ f ∧ f ≤ 105) := rfl
theorem wb2 {o f : Int} : Wb 2 o f = (-54 ≤ o ∧ o ≤ 105 ∧ f ≤ 2 * o.natAbs + 27 ∧ -(2 * (o.natAbs : Int)) ≤ f) := rfl
theorem wb3 {o f : Int} : Wb 3 o f = (-1000 ≤ o ∧ o ≤ 1000 ∧ -1000 ≤ f ∧ f ≤ 1000 ∧ -1000 ≤ o + f ∧ o + f ≤ 1000 ∧ -1000 ≤ 2 * o - f ∧ 2 * o - f ≤ 1000) := rfl
theorem wb_turn {i : Nat} {o f m : Int} (hi : i < 3) (h1 : -2 ≤ m) (h2 : m ≤ 2) (h : Wb i o f) : Wb (i + 1) f (o + m * f) := by
  have hm : m = -2 ∨ m = -1 ∨ m = 0 ∨ m = 1 ∨ m = 2 := by omega
  match i, hi, h with
  | 0, _, h => rw [wb1]; rw [wb0] at h; rcases hm with rfl | rfl | rfl | rfl | rfl <;> omega
  | 1, _, h => rw [wb2]; rw [wb1] at h; rcases hm with rfl | rfl | rfl | rfl | rfl <;> omega
  | 2, _, h => rw [wb3]; rw [wb2] at h; rcases hm with rfl | rfl | rfl | rfl | rfl <;> omega
theorem wb_end {i : Nat} {o f : Int} (hi : i ≤ 3) (h : Wb i o f) : Wb 3 o f := by
  match i, hi, h with
  | 0, _, h => rw [wb3]; rw [wb0] at h; omega
  | 1, _, h => rw [wb3]; rw [wb1] at h; omega
  | 2, _, h => rw [wb3]; rw [wb2] at h; omega
  | 3, _, h => exact h
theorem for_rngI {b : DSt} {D0 : DEnds} {e : DL.Env} {rr : DA} {gg : DTg} (C : Int → DL.Env → Prop) (hr : ∀ S : List D → DL.Env → Prop, (∀ j e1, C j e1 → S [.int j] e1) → rr e S)
    (hb : ∀ j e1, C j e1 → -(2 ^ 62) ≤ j ∧ j < 2 ^ 62 ∧ ∃ Pv : Nat → DL.Env → Prop, Pv 0 e1 ∧ (∀ (i : Nat) e2, (i : Int) < j → Pv i e2 → gg (.int i) e2 fun e3 => b { D0 with nx := Pv (i + 1), ct := Pv (i + 1), bk := D0.nx } e3) ∧ ∀ e2, Pv j.toNat e2 → D0.nx e2) : dFor (dRng1 rr) gg b D0 e := by
  refine hr _ (fun j e1 c => ?_)
  obtain ⟨h1, h2, Pv, h0, hs, hd⟩ := hb j e1 c
  exact for_rng1 (e := e1) (rr := fun _ S => S [.int j] e1) (fun S h => h) h1 h2 Pv h0 hs hd
/-- the steps drawn -/
structure Stp (S : List (Int × Int)) (a b d : Int) : Prop where
  l1 : 2 ≤ S.length
  l2 : S.length ≤ 4
  bd : ∀ p ∈ S, -1000 ≤ p.1 ∧ p.1 ≤ 1000 ∧ -1000 ≤ p.2 ∧ p.2 ≤ 1000
  ne : ∃ p ∈ S, ∃ q ∈ S, p.1 * q.2 - p.2 * q.1 ≠ 0
  eq : ∀ x y, Span S x y ↔ InH a b d x y
theorem Stp.grid {S : List (Int × Int)} {a b d : Int} (h : Stp S a b d) : Grid S := ⟨h.l1, by have := h.l2; omega, fun p hp => by have := h.bd p hp; omega, h.ne⟩
def TI (a b d : Int) (i : Nat) (e : DL.Env) : Prop := ∃ (cs : Ow) (o f : Int × Int) (z1 z2 : Sl), e = [.bo cs, .im (.int a), .im (.int b), .im (.int d), .im (pt o), .im (pt f), z1, z2, .un] ∧ Dice cs ∧ (∀ x y, Sp2 o f x y ↔ InH a b d x y) ∧ Wb i o.1 f.1 ∧ Wb i o.2 f.2 ∧ o.1 * f.2 - o.2 * f.1 ≠ 0
theorem m2 {x m : Int} (h1 : -2 ≤ m) (h2 : m ≤ 2) (hx : -2000 ≤ x ∧ x ≤ 2000) : CMulW m x := mulB (k := 11) (m := 11) (bdX (by omega) (by omega)) (bdX (by omega) (by omega)) (by omega) (by omega)
theorem sp_steps {cs : Ow} {a b d : Int} {P : D → Ow → Prop} (hd : Dice cs) (a0 : 0 < a) (a1 : a ≤ 27) (b0 : 0 ≤ b) (b1 : b ≤ 51) (d0 : 0 < d) (d1 : d ≤ 27) (h : ∀ S cs', Stp S a b d → Dice cs' → P (gD S) cs') : C__law_steps cs [.int a, .int b, .int d] P := by
  refine u__law_steps ?_
  unfold t__law_steps
  simp
  refine for_rngI (fun j e => ∃ cs', 0 ≤ j ∧ j < 4 ∧ Dice cs' ∧ e = [.bo cs', .im (.int a), .im (.int b), .im (.int d), .im (pt (a, b)), .im (pt (0, d)), .un, .un, .un]) (fun S hS => ?_) ?_
  · simp
    refine sp_roll hd (by omega) (by omega) (fun r cs1 r0 r1 hd1 => ?_)
    exact hS _ _ ⟨cs1, r0, r1, hd1, rfl⟩
  rintro j e1 ⟨cs1, j0, j1, hd1, rfl⟩
  refine ⟨by omega, by omega, TI a b d, ⟨cs1, (a, b), (0, d), .un, .un, rfl, hd1, fun x y => ?_, ⟨by show 0 ≤ a; omega, by show a ≤ 51; omega, by show (0 : Int) ≤ 0; omega, by show (0 : Int) ≤ 27; omega⟩, ⟨b0, b1, by show 0 ≤ d; omega, d1⟩, ?_⟩, ?_, ?_⟩
  · constructor
    · rintro ⟨i, j, e1, e2⟩; exact ⟨i, j, by rw [e1]; show i * a + j * 0 = _; omega, e2⟩
    · rintro ⟨i, j, e1, e2⟩; exact ⟨i, j, by rw [e1]; show _ = i * a + j * 0; omega, e2⟩
  · show a * d - b * 0 ≠ 0
    have := Int.mul_pos a0 d0
    omega
  · rintro i e2 hi ⟨cs2, o, f, z1, z2, rfl, hd2, hsp, w1, w2, ne⟩
    have u1 := wb_end (by omega) w1
    have u2 := wb_end (by omega) w2
    rw [wb3] at u1 u2
    unfold pt
    simp
    refine sp_roll hd2 (by omega) (by omega) (fun m cs3 m0 m1 hd3 => ?_)
    refine ⟨m2 (by omega) (by omega) (by omega), m2 (by omega) (by omega) (by omega), cs3, f, (o.1 + (m - 2) * f.1, o.2 + (m - 2) * f.2), _, _, rfl, hd3, fun x y => sp2_turn.trans (hsp x y), wb_turn (by omega) (by omega) (by omega) w1, wb_turn (by omega) (by omega) (by omega) w2, ?_⟩
    show f.1 * (o.2 + (m - 2) * f.2) - f.2 * (o.1 + (m - 2) * f.1) ≠ 0
    have : f.1 * (o.2 + (m - 2) * f.2) - f.2 * (o.1 + (m - 2) * f.1) = -(o.1 * f.2 - o.2 * f.1) := by grind
    omega
  · rintro e2 ⟨cs2, o, f, z1, z2, rfl, hd2, hsp, w1, w2, ne⟩
    have u1 := wb_end (by omega) w1
    have u2 := wb_end (by omega) w2
    rw [wb3] at u1 u2
    unfold pt
    simp
    have fin : ∀ (L : List (Int × Int)) (cs' : Ow), o ∈ L → f ∈ L → (∀ p ∈ L, p = o ∨ p = f ∨ p = (o.1 + f.1, o.2 + f.2) ∨ p = (2 * o.1 - f.1, 2 * o.2 - f.2)) → 2 ≤ L.length → L.length ≤ 4 → Dice cs' → C__law_mixed cs' [.list (L.map pt)] fun d cs' => gTuple [d] fun d => P d cs' := by
      intro L cs' ho hf hL l1 l2 hd'
      refine sp_mixed hd' (by omega) (fun B cs2 hB lB hd2 => h B cs2 ⟨by omega, by omega, fun p hp => ?_, ⟨o, (hB o).mpr ho, f, (hB f).mpr hf, ne⟩, fun x y => (Iff.trans ?_ (hsp x y))⟩ hd2)
      · rcases hL p ((hB p).mp hp) with rfl | rfl | rfl | rfl
        · omega
        · omega
        · show -1000 ≤ o.1 + f.1 ∧ o.1 + f.1 ≤ 1000 ∧ -1000 ≤ o.2 + f.2 ∧ o.2 + f.2 ≤ 1000
          omega
        · show -1000 ≤ 2 * o.1 - f.1 ∧ 2 * o.1 - f.1 ≤ 1000 ∧ -1000 ≤ 2 * o.2 - f.2 ∧ 2 * o.2 - f.2 ≤ 1000
          omega
      · constructor
        · refine span_le (lat_sp2 o f) (fun p hp => ?_)
          rcases hL p ((hB p).mp hp) with rfl | rfl | rfl | rfl
          · exact ⟨1, 0, by omega, by omega⟩
          · exact ⟨0, 1, by omega, by omega⟩
          · exact ⟨1, 1, by show o.1 + f.1 = _; omega, by show o.2 + f.2 = _; omega⟩
          · exact ⟨2, -1, by show 2 * o.1 - f.1 = _; omega, by show 2 * o.2 - f.2 = _; omega⟩
        · rintro ⟨i, j, e1, e2⟩
          have := (lat_span B).add ((lat_span B).mul i (span_mem ((hB o).mpr ho))) ((lat_span B).mul j (span_mem ((hB f).mpr hf)))
          rw [← e1, ← e2] at this
          exact this
    refine sp_roll hd2 (by omega) (by omega) (fun k cs3 k0 k1 hd3 => ?_)
    have hk : k = 0 ∨ k = 1 := by omega
    have sz4 : ∀ n, n ≤ 900 → n ≤ sizeLine := fun n hn => Nat.le_of_lt (sz hn)
    rcases hk with rfl | rfl
    · refine ⟨by omega, by omega, sz4 _ (by simp), sz4 _ (by simp), m2 (by omega) (by omega) (by omega), m2 (by omega) (by omega) (by omega), sp_roll hd3 (by omega) (by omega) (fun l cs4 l0 l1 hd4 => ?_)⟩
      have hl : l = 0 ∨ l = 1 := by omega
      rcases hl with rfl | rfl
      · exact ⟨by omega, by omega, sz4 _ (by simp), sz4 _ (by simp), fin [o, f] cs4 (by simp) (by simp) (by simp) (by simp) (by simp) hd4⟩
      · exact ⟨by omega, by omega, sz4 _ (by simp), sz4 _ (by simp), fin [o, f, (2 * o.1 - f.1, 2 * o.2 - f.2)] cs4 (by simp) (by simp) (by simp) (by simp) (by simp) hd4⟩
    · refine ⟨by omega, by omega, sz4 _ (by simp), sz4 _ (by simp), m2 (by omega) (by omega) (by omega), m2 (by omega) (by omega) (by omega), sp_roll hd3 (by omega) (by omega) (fun l cs4 l0 l1 hd4 => ?_)⟩
      have hl : l = 0 ∨ l = 1 := by omega
      rcases hl with rfl | rfl
      · exact ⟨by omega, by omega, sz4 _ (by simp), sz4 _ (by simp), fin [o, f, (o.1 + f.1, o.2 + f.2)] cs4 (by simp) (by simp) (by simp) (by simp) (by simp) hd4⟩
      · exact ⟨by omega, by omega, sz4 _ (by simp), sz4 _ (by simp), fin [o, f, (o.1 + f.1, o.2 + f.2), (2 * o.1 - f.1, 2 * o.2 - f.2)] cs4 (by simp) (by simp) (by simp) (by simp) (by simp) hd4⟩
end Nk66

namespace Nk66
open PySem PySem.Spec PyProof.Rows L2 DL
variable [Clss]
theorem dec_and {p q : Prop} [Decidable p] [Decidable q] : (decide p && decide q) = decide (p ∧ q) := by simp
theorem sp_law_is_in {x y a b d : Int} {P : D → Prop} (a0 : 0 < a) (d0 : 0 < d) (hx : x.natAbs ≤ 10 ^ 12) (hb : b.natAbs ≤ 10 ^ 12) (ha : a.natAbs ≤ 10 ^ 12) (h : ∀ c : Bool, (c = true ↔ InH a b d x y) → P (.bool c)) : C__law_is_in [.tuple [.int x, .int y], pd a b d] P := by
  refine u__law_is_in ?_
  unfold t__law_is_in pd
  simp
  refine ⟨a0, ?_⟩
  by_cases c1 : x % a = 0
  · have h2 := h (decide ((y - x / a * b) % d = 0)) (by rw [inH_iff a0 d0]; simp [c1])
    have Ba : Bd 101 a := bdI ha
    rw [decide_eq_true c1]
    exact ⟨divB a0 Ba (by omega), mulB (ediv_bd a0 (bdI hx)) (bdI hb) (by omega) (by omega), d0, h2⟩
  · have h2 := h false (by rw [inH_iff a0 d0]; simp [c1])
    rw [decide_eq_false c1]
    exact h2
theorem six_nat {n i : Nat} (hi : i ≤ n) : HT.sIx n n (some (i : Int)) = i := by
  rw [HT.sIx_nat]
  omega
theorem cut_take {ds : List D} {i : Nat} (hi : i ≤ ds.length) : DL.cutD ds none (some (i : Int)) = ds.take i := by
  unfold DL.cutD
  rw [six_nat hi]
  simp [HT.sIx]
def LI (S : List (Int × Int)) (N : Int) (i : Nat) (e : DL.Env) : Prop := ∃ (F : Int) (z1 z2 z3 : Sl), e = [.im (gD S), .im (.int F), z1, z2, z3] ∧ 0 ≤ F ∧ N ∣ F ∧ ∀ (j k : Nat) (p q : Int × Int), S[j]? = some p → S[k]? = some q → k < j → j < i → F ∣ p.1 * q.2 - p.2 * q.1
def LJ (S : List (Int × Int)) (N : Int) (i : Nat) (p : Int × Int) (m : Nat) (e : DL.Env) : Prop := ∃ (F : Int) (z3 : Sl), e = [.im (gD S), .im (.int F), .im (.int i), .im (pt p), z3] ∧ 0 ≤ F ∧ N ∣ F ∧ ∀ (j k : Nat) (p q : Int × Int), S[j]? = some p → S[k]? = some q → k < j → j < i ∨ j = i ∧ k < m → F ∣ p.1 * q.2 - p.2 * q.1
theorem sp_law_index {S : List (Int × Int)} {a b d : Int} {P : D → Prop} (g : Grid S) (H : Hn (Span S) a b d) (h : P (.int (a * d))) : C__law_index [gD S] P := by
  refine u__law_index ?_
  unfold t__law_index
  have l2 := g.l2
  rw [s_seq]
  simp
  refine for_enumT (ds := S.map pt) (e1 := [.im (gD S), .im (.int 0), .un, .un, .un]) (fun Q z => by simpa [gD] using z) (LI S (a * d)) ⟨0, _, _, _, rfl, by omega, Int.dvd_zero _, fun j k p q _ _ _ z => absurd z (by omega)⟩ ?_ ?_
  · rintro i x e2 hx ⟨F, z1, z2, z3, rfl, F0, NF, hF⟩
    obtain ⟨p, hp, rfl⟩ := map_get hx
    have hi := (List.getElem?_eq_some_iff.mp hp).1
    simp
    refine for_tup (ds := (S.take i).map pt) (e1 := [.im (gD S), .im (.int F), .im (.int i), .im (pt p), z3]) (fun Q z => ?_) (LJ S (a * d) i p) ⟨F, _, rfl, F0, NF, fun j k p q e1 e2 e3 e4 => hF j k p q e1 e2 e3 (by omega)⟩ ?_ ?_
    · unfold gD
      simp
      rw [cut_take (by rw [List.length_map]; omega), ← List.map_take]
      exact ⟨fun _ => by rw [six_nat (by omega)]; omega, z⟩
    · rintro m x e3 hx ⟨F, z3, rfl, F0, NF, hF⟩
      obtain ⟨q, hq, rfl⟩ := map_get hx
      have hm := (List.getElem?_eq_some_iff.mp hq).1
      rw [List.length_take] at hm
      rw [List.getElem?_take] at hq
      split at hq
      · have bp := g.bd p (mem_get hp)
        have bq := g.bd q (mem_get hq)
        unfold pt
        simp
        refine ⟨mulB (k := 11) (m := 11) (bdX (by omega) (by omega)) (bdX (by omega) (by omega)) (by omega) (by omega), mulB (k := 11) (m := 11) (bdX (by omega) (by omega)) (bdX (by omega) (by omega)) (by omega) (by omega), sp_law_common ?_⟩
        refine ⟨_, _, rfl, by omega, Int.dvd_coe_gcd NF ?_, fun j k p' q' e1 e2 e3 e4 => ?_⟩
        · obtain ⟨k, hk⟩ := cross_in ((H.eq _ _).mp (span_mem (mem_get hp))) ((H.eq _ _).mp (span_mem (mem_get hq)))
          exact ⟨k, by rw [hk]; exact Int.mul_comm _ _⟩
        · by_cases c : j = i ∧ k = m
          · obtain ⟨rfl, rfl⟩ := c
            rw [hp] at e1
            rw [hq] at e2
            cases e1
            cases e2
            exact Int.gcd_dvd_right _ _
          · exact Int.dvd_trans (Int.gcd_dvd_left _ _) (hF j k p' q' e1 e2 e3 (by omega))
      · cases hq
    · rintro e3 ⟨F, z3, rfl, F0, NF, hF⟩
      refine ⟨F, _, _, _, rfl, F0, NF, fun j k p' q' e1 e2 e3 e4 => hF j k p' q' e1 e2 e3 ?_⟩
      rw [List.length_map, List.length_take]
      omega
  · rintro e2 ⟨F, z1, z2, z3, rfl, F0, NF, hF⟩
    rw [List.length_map] at hF
    simp
    have : F = a * d := cross_gcd H F0 (fun p hp q hq => by
      obtain ⟨j, hj, rfl⟩ := List.mem_iff_getElem.mp hp
      obtain ⟨k, hk, rfl⟩ := List.mem_iff_getElem.mp hq
      rcases Nat.lt_trichotomy k j with z | z | z
      · exact hF j k _ _ (List.getElem?_eq_getElem hj) (List.getElem?_eq_getElem hk) z hj
      · subst z
        rw [Int.mul_comm, Int.sub_self]
        exact Int.dvd_zero _
      · have := hF k j _ _ (List.getElem?_eq_getElem hk) (List.getElem?_eq_getElem hj) z hk
        have e : S[j].1 * S[k].2 - S[j].2 * S[k].1 = -(S[k].1 * S[j].2 - S[k].2 * S[j].1) := by grind
        rw [e]
        exact Int.dvd_neg.mpr this) NF
    rw [this]
    exact h
end Nk66

namespace Nk66
open PySem PySem.Spec PyProof.Rows L2 DL
variable [Clss]
theorem hn_in {a b d : Int} (a0 : 0 < a) (d0 : 0 < d) (b0 : 0 ≤ b) (b1 : b < d) : Hn (InH a b d) a b d := ⟨a0, d0, b0, b1, fun _ _ => Iff.rfl⟩
theorem Hn.norm {L : Int → Int → Prop} {a b d : Int} (h : Hn L a b d) : Hn (InH a b d) a b d := hn_in h.a0 h.d0 h.b0 h.bd
/-- a grid with its flat pair -/
structure KG (S : List (Int × Int)) (a b d : Int) : Prop where
  g : Grid S
  hn : Hn (Span S) a b d
theorem kg_pd {L : Int → Int → Prop} {a b d : Int} (h : Hn L a b d) (h1 : a ≤ 2000) (h2 : d ≤ 2000) : KG [(a, b), (0, d)] a b d := by
  have a0 := h.a0
  have d0 := h.d0
  have b0 := h.b0
  have b1 := h.bd
  refine ⟨⟨by simp, by simp, fun p hp => ?_, ⟨(a, b), by simp, (0, d), by simp, ?_⟩⟩, a0, d0, b0, b1, fun x y => span_two x y⟩
  · simp at hp
    rcases hp with rfl | rfl
    · exact ⟨by show -2000 ≤ a; omega, h1, by show -2000 ≤ b; omega, by show b ≤ 2000; omega⟩
    · exact ⟨by show (-2000 : Int) ≤ 0; omega, by show (0 : Int) ≤ 2000; omega, by show -2000 ≤ d; omega, h2⟩
  · show a * d - b * 0 ≠ 0
    have := Int.mul_pos a0 d0
    omega
variable {S T : List (Int × Int)} {a b d c e f : Int} {P : D → Prop}
theorem KG.app (k : KG S a b d) (k' : KG T c e f) (hl : S.length + T.length ≤ 20) : Grid (S ++ T) := by
  refine ⟨by rw [List.length_append]; have := k.g.l1; omega, by rw [List.length_append]; exact hl, fun p hp => ?_, ?_⟩
  · rcases List.mem_append.mp hp with z | z
    · exact k.g.bd p z
    · exact k'.g.bd p z
  · obtain ⟨p, hp, q, hq, e⟩ := k.g.ne
    exact ⟨p, List.mem_append_left _ hp, q, List.mem_append_left _ hq, e⟩
theorem KG.jn (k : KG S a b d) (k' : KG T c e f) (x y : Int) : Span (S ++ T) x y ↔ Jn (InH a b d) (InH c e f) x y := (span_jn x y).trans (jn_congr k.hn.eq k'.hn.eq x y)
theorem KG.cap (k : KG S a b d) (k' : KG T c e f) (x y : Int) : (Span S x y ∧ Span T x y) ↔ (InH a b d x y ∧ InH c e f x y) := and_congr (k.hn.eq x y) (k'.hn.eq x y)
theorem k_pair (k : KG S a b d) (h : P (pd a b d)) : C_grid_pair [gD S] P := sp_grid_pair k.g (fun x y z R => by
  obtain ⟨rfl, rfl, rfl⟩ := R.uniq k.hn
  exact h)
theorem k_index (k : KG S a b d) (h : P (.int (a * d))) : C_grid_index [gD S] P := sp_grid_index k.g (fun x y z R => by
  obtain ⟨rfl, rfl, rfl⟩ := R.uniq k.hn
  exact h)
theorem k_lawindex (k : KG S a b d) (h : P (.int (a * d))) : C__law_index [gD S] P := sp_law_index k.g k.hn h
theorem k_joint (k : KG S a b d) (k' : KG T c e f) (hl : S.length + T.length ≤ 20) (h : ∀ x y z, Hn (Jn (InH a b d) (InH c e f)) x y z → P (pd x y z)) : C_joint_grid [gD S, gD T] P :=
  sp_joint_grid k.g k'.g hl (fun x y z R => h x y z (R.congr (k.jn k')))
theorem k_joint' (k : KG S a b d) (k' : KG T c e f) (hl : S.length + T.length ≤ 20) {x y z : Int} (H : Hn (Jn (InH a b d) (InH c e f)) x y z) (h : P (pd x y z)) : C_joint_grid [gD S, gD T] P :=
  k_joint k k' hl (fun x' y' z' R => by
    obtain ⟨rfl, rfl, rfl⟩ := R.uniq H
    exact h)
theorem k_shared (k : KG S a b d) (k' : KG T c e f) (h : ∀ x y z many, Hn (fun x y => InH a b d x y ∧ InH c e f x y) x y z → Shp a b d c e f x y z many → P (pd x y z)) : C_shared_grid [gD S, gD T] P :=
  sp_shared_grid k.g k'.g (fun a1 b1 d1 c1 e1 f1 x y z many R1 R2 s => by
    obtain ⟨rfl, rfl, rfl⟩ := R1.uniq k.hn
    obtain ⟨rfl, rfl, rfl⟩ := R2.uniq k'.hn
    have hc := cap_hn R1 R2 s.hm s.cap
    rw [← s.hA, ← s.hD] at hc
    exact h x y z many (hc.congr (k.cap k')) s)
theorem k_shared' (k : KG S a b d) (k' : KG T c e f) {x y z : Int} (H : Hn (fun x y => InH a b d x y ∧ InH c e f x y) x y z) (h : P (pd x y z)) : C_shared_grid [gD S, gD T] P :=
  k_shared k k' (fun x' y' z' _ R _ => by
    obtain ⟨rfl, rfl, rfl⟩ := R.uniq H
    exact h)
theorem all_in (k : KG S a b d) (k' : KG T c e f) : (∀ p ∈ S, Span T p.1 p.2) ↔ ∀ x y, InH a b d x y → InH c e f x y := by
  constructor
  · intro h x y hx
    exact (k'.hn.eq _ _).mp (span_le (lat_span T) h ((k.hn.eq _ _).mpr hx))
  · intro h p hp
    exact (k'.hn.eq _ _).mpr (h _ _ ((k.hn.eq _ _).mp (span_mem hp)))
theorem k_within (k : KG S a b d) (k' : KG T c e f) (h : ∀ w : Bool, (w = true ↔ ∀ x y, InH a b d x y → InH c e f x y) → P (.bool w)) : C_lies_within [gD S, gD T] P :=
  sp_lies_within k.g k'.g (h _ (by
    rw [← all_in k k', List.all_eq_true]
    exact ⟨fun z p hp => inS_iff.mp (z p hp), fun z p hp => inS_iff.mpr (z p hp)⟩))
theorem k_within' (k : KG S a b d) (k' : KG T c e f) (hi : ∀ x y, InH a b d x y → InH c e f x y) (h : P (.bool true)) : C_lies_within [gD S, gD T] P :=
  k_within k k' (fun w hw => by
    rw [hw.mpr hi]
    exact h)
theorem k_same (k : KG S a b d) (k' : KG T c e f) (h : P (.bool (decide (a = c ∧ b = e ∧ d = f)))) : C_are_same [gD S, gD T] P :=
  sp_are_same k.g k'.g (fun x y z x' y' z' R R' => by
    obtain ⟨rfl, rfl, rfl⟩ := R.uniq k.hn
    obtain ⟨rfl, rfl, rfl⟩ := R'.uniq k'.hn
    exact h)
theorem k_isin (k : KG S a b d) {p : Int × Int} (bp : -1000 ≤ p.1 ∧ p.1 ≤ 1000 ∧ -1000 ≤ p.2 ∧ p.2 ≤ 1000) (h : ∀ w : Bool, (w = true ↔ InH a b d p.1 p.2) → P (.bool w)) : C_is_in_grid [gD S, pt p] P :=
  sp_is_in_grid k.g bp (h _ (inS_iff.trans (k.hn.eq _ _)))
@[simp ↓] theorem s_add_gD {S T : List (Int × Int)} {P : D → Prop} : gAdd (gD S) (gD T) P = ((S.map pt).length + (T.map pt).length ≤ sizeLine ∧ P (gD (S ++ T))) := by
  unfold gD
  rw [List.map_append]
  rfl
/-! sizes -/
theorem many_le {t g many n : Int} (g0 : 0 < g) (m0 : 0 < many) (h : many * g = t) (ht : t ≤ n) : many ≤ n := by
  have : many * 1 ≤ many * g := Int.mul_le_mul_of_nonneg_left (by omega) (by omega)
  omega
theorem lc_le {x y : Int} (hx : 0 < x) (hy : 0 < y) (h : (x ∣ y ∧ y ≤ 81) ∨ (x ≤ 9 ∧ y ≤ 9)) : lc x y ≤ 81 := by
  have F := lc_facts hx hy
  rcases h with ⟨h1, h2⟩ | ⟨h1, h2⟩
  · have := Int.le_of_dvd hy (F.least y h1 (Int.dvd_refl y))
    omega
  · have l0 := F.l0
    have e : lc x y * 1 ≤ lc x y * (Int.gcd x y : Nat) := Int.mul_le_mul_of_nonneg_left (by have := F.g0; omega) (by omega)
    rw [F.lg] at e
    have : x * y ≤ 9 * y := Int.mul_le_mul_of_nonneg_right h1 (by omega)
    omega
theorem shp_le {A B D many : Int} (a0 : 0 < a) (d0 : 0 < d) (c0 : 0 < c) (f0 : 0 < f) (s : Shp a b d c e f A B D many) (hd : d ≤ 9) (h1 : (a ∣ c ∧ c ≤ 81) ∨ (a ≤ 9 ∧ c ≤ 9)) (h2 : (d ∣ f ∧ f ≤ 81) ∨ (d ≤ 9 ∧ f ≤ 9)) : A ≤ 729 ∧ D ≤ 81 := by
  have l1 := lc_le a0 c0 h1
  have l2 := lc_le d0 f0 h2
  have F := lc_facts a0 c0
  have G := lc_facts d0 f0
  obtain ⟨m1, m2, m3⟩ := many_pos (x := (lc a c / a * b - lc a c / c * e) % ((Int.gcd d f : Nat) : Int)) d0 f0
  have hm := s.hm
  rw [← hm] at m2 m3
  have t9 : ((Int.gcd d f : Nat) : Int) ≤ 9 := by
    have := Int.le_of_dvd d0 G.gx
    omega
  have m9 := many_le (by omega) m2 m3 t9
  have l0 := F.l0
  have e1 : many * lc a c ≤ 9 * lc a c := Int.mul_le_mul_of_nonneg_right m9 (by omega)
  rw [s.hA, s.hD]
  omega
end Nk66

namespace Nk66
open PySem PySem.Spec PyProof.Rows L2 DL
variable [Clss]
def bo14 : DSt := (dRet (dOrV (dBin gGt (dCall C__law_common (dCons (dVar 14) (dCons (dVar 15) dNil))) (dC (.int 1))) (dAndV (dBin gEq (dVar 12) (dTup (dCons (dTup (dCons (dC (.int 1)) (dCons (dC (.int 0)) dNil))) (dCons (dTup (dCons (dC (.int 0)) (dCons (dC (.int 1)) dNil))) dNil)))) (dBin gEq (dCall C_grid_index (dCons (dVar 13) dNil)) (dBin gMul (dVar 14) (dVar 15))))))
def bo13 : DSt := dSeq (dIfS (dOr (dB (dBin gNotB (dCall C_lies_within (dCons (dVar 13) (dCons (dVar 12) dNil))) (dC (.bool true)))) (dOr (dB (dBin gNotB (dCall C_lies_within (dCons (dVar 13) (dCons (dVar 10) dNil))) (dC (.bool true)))) (dB (dBin gNotB (dCall C_lies_within (dCons (dVar 10) (dCons (dVar 12) dNil))) (dC (.bool true)))))) (dRet (dC (.bool false))) dPass) bo14
def bo12 : DSt := dSeq (dIfS (dOr (dB (dBin gNe (dVar 20) (dRep (dFLst (dCons (dVar 19) dNil)) (dC (.int 4))))) (dOr (dAnd (dTru (dVar 19)) (dB (dBin gNe (dBin gMod (dVar 15) (dVar 14)) (dC (.int 0))))) (dB (dBin gNe (dCall C_are_same (dCons (dVar 10) (dCons (dVar 11) dNil))) (dAndV (dVar 19) (dBin gEq (dVar 14) (dVar 15))))))) (dRet (dC (.bool false))) dPass) bo13
def bo11 : DSt := dSeq (dAsg (dLst (dCons (dCall C_lies_within (dCons (dVar 11) (dCons (dVar 10) dNil))) (dCons (dBin gEq (dVar 12) (dCall C_grid_pair (dCons (dVar 10) dNil))) (dCons (dBin gEq (dVar 13) (dCall C_grid_pair (dCons (dVar 11) dNil))) (dCons (dCall C_are_same (dCons (dVar 12) (dCons (dVar 10) dNil))) dNil))))) (dgName 20)) bo12
def bo10 : DSt := dSeq (dAsg (dBin gEq (dFrz (dComp (dItT (dVar 11)) (dgName 18) (dNot (dB (dCall C_is_in_grid (dCons (dVar 10) (dCons (dVar 18) dNil))))) (dVar 18) [18])) (dLst dNil)) (dgName 19)) bo11
def bo9 : DSt := dSeq (dIfS (dOr (dB (dBin gNe (dFrz (dComp (dItT (dBin gAdd (dVar 10) (dVar 11))) (dgName 18) (dNot (dB (dCall C_is_in_grid (dCons (dVar 12) (dCons (dVar 18) dNil))))) (dVar 18) [18])) (dLst dNil))) (dB (dBin gNe (dFrz (dComp (dItT (dVar 13)) (dgName 18) (dOr (dNot (dB (dCall C_is_in_grid (dCons (dVar 10) (dCons (dVar 18) dNil))))) (dNot (dB (dCall C_is_in_grid (dCons (dVar 11) (dCons (dVar 18) dNil)))))) (dVar 18) [18])) (dLst dNil)))) (dRet (dC (.bool false))) dPass) bo10
def bo8 : DSt := dSeq (dFor (dRng2 (dCons (dUn (fun i => .int (-i)) (dC (.int 12))) (dCons (dC (.int 13)) dNil))) (dgName 16) (dFor (dRng2 (dCons (dUn (fun i => .int (-i)) (dC (.int 12))) (dCons (dC (.int 13)) dNil))) (dgName 17) (dIfS (dB (dBin gNe (dCall C__law_is_in (dCons (dTup (dCons (dVar 16) (dCons (dVar 17) dNil))) (dCons (dVar 13) dNil))) (dAndV (dCall C__law_is_in (dCons (dTup (dCons (dVar 16) (dCons (dVar 17) dNil))) (dCons (dVar 1) dNil))) (dCall C__law_is_in (dCons (dTup (dCons (dVar 16) (dCons (dVar 17) dNil))) (dCons (dVar 2) dNil)))))) (dRet (dC (.bool false))) dPass))) bo9
def bo7 : DSt := dSeq (dIfS (dOr (dB (dBin gNe (dCall C_joint_grid (dCons (dVar 11) (dCons (dVar 10) dNil))) (dVar 12))) (dOr (dB (dBin gNe (dCall C_shared_grid (dCons (dVar 11) (dCons (dVar 10) dNil))) (dVar 13))) (dOr (dB (dBin gNe (dCall C_joint_grid (dCons (dVar 10) (dCons (dVar 10) dNil))) (dCall C_grid_pair (dCons (dVar 10) dNil)))) (dB (dBin gNe (dCall C_shared_grid (dCons (dVar 11) (dCons (dVar 11) dNil))) (dCall C_grid_pair (dCons (dVar 11) dNil))))))) (dRet (dC (.bool false))) dPass) bo8
def bo6 : DSt := dSeq (dIfS (dOr (dB (dBin gNe (dCall C_grid_index (dCons (dVar 12) dNil)) (dCall C__law_index (dCons (dBin gAdd (dVar 10) (dVar 11)) dNil)))) (dOr (dB (dBin gNe (dBin gMul (dCall C_grid_index (dCons (dVar 12) dNil)) (dCall C_grid_index (dCons (dVar 13) dNil))) (dBin gMul (dVar 14) (dVar 15)))) (dB (dBin gNe (dVar 12) (dCall C_grid_pair (dCons (dBin gAdd (dVar 10) (dVar 11)) dNil)))))) (dRet (dC (.bool false))) dPass) bo7
def bo5 : DSt := dSeq (dPar 14 15 (dCons (dBin gMul (dBin gIx (dBin gIx (dVar 1) (dC (.int 0))) (dC (.int 0))) (dBin gIx (dBin gIx (dVar 1) (dC (.int 1))) (dC (.int 1)))) (dCons (dBin gMul (dBin gIx (dBin gIx (dVar 2) (dC (.int 0))) (dC (.int 0))) (dBin gIx (dBin gIx (dVar 2) (dC (.int 1))) (dC (.int 1)))) dNil))) bo6
def bo4 : DSt := dSeq (dAsg (dTup (dCons (dCall C_joint_grid (dCons (dVar 10) (dCons (dVar 11) dNil))) (dCons (dCall C_shared_grid (dCons (dVar 10) (dCons (dVar 11) dNil))) dNil))) (dgTup 2 (dgCons (dgName 12) (dgCons (dgName 13) dgNil)))) bo5
def bo3 : DSt := dSeq (dAsg (dTup (dCons (dCallL 0 C__law_steps (dCons (dBin gIx (dBin gIx (dVar 1) (dC (.int 0))) (dC (.int 0))) (dCons (dBin gIx (dBin gIx (dVar 1) (dC (.int 0))) (dC (.int 1))) (dCons (dBin gIx (dBin gIx (dVar 1) (dC (.int 1))) (dC (.int 1))) dNil)))) (dCons (dCallL 0 C__law_steps (dCons (dBin gIx (dBin gIx (dVar 2) (dC (.int 0))) (dC (.int 0))) (dCons (dBin gIx (dBin gIx (dVar 2) (dC (.int 0))) (dC (.int 1))) (dCons (dBin gIx (dBin gIx (dVar 2) (dC (.int 1))) (dC (.int 1))) dNil)))) dNil))) (dgTup 2 (dgCons (dgName 10) (dgCons (dgName 11) dgNil)))) bo4
def bo2 : DSt := dSeq (dIfS (dB (dBin gEq (dCallL 0 C__law_roll (dCons (dC (.int 3)) dNil)) (dC (.int 0)))) (dSeq (dAsg (dVar 1) (dgTup 2 (dgCons (dgTup 2 (dgCons (dgName 3) (dgCons (dgName 4) dgNil))) (dgCons (dgTup 2 (dgCons (dgName 5) (dgCons (dgName 6) dgNil))) dgNil)))) (dSeq (dPar3 7 8 9 (dCons (dBin gAdd (dC (.int 1)) (dCallL 0 C__law_roll (dCons (dC (.int 3)) dNil))) (dCons (dCallL 0 C__law_roll (dCons (dC (.int 4)) dNil)) (dCons (dBin gAdd (dC (.int 1)) (dCallL 0 C__law_roll (dCons (dC (.int 3)) dNil))) dNil)))) (dAsg (dTup (dCons (dTup (dCons (dBin gMul (dVar 7) (dVar 3)) (dCons (dBin gAdd (dBin gMul (dVar 7) (dVar 4)) (dBin gMul (dVar 8) (dVar 6))) dNil))) (dCons (dTup (dCons (dC (.int 0)) (dCons (dBin gMul (dVar 9) (dVar 6)) dNil))) dNil))) (dgName 2)))) dPass) bo3
def bo1 : DSt := dSeq (dAsg (dCallL 0 C__law_drawn (dCons (dC (.int 9)) dNil)) (dgName 2)) bo2
def bo0 : DSt := dSeq (dAsg (dCallL 0 C__law_drawn (dCons (dC (.int 9)) dNil)) (dgName 1)) bo1
theorem bo_all : t__law_both_right = bo0 := rfl
structure Bo (S T : List (Int × Int)) (a b d c e e0 f a' b' d' A B G : Int) : Prop where
  kS : KG S a b d
  kT : KG T c e f
  sS : Stp S a b d
  sT : Stp T c e0 f
  he : ∀ x y, InH c e f x y ↔ InH c e0 f x y
  HJ : Hn (Jn (InH a b d) (InH c e f)) a' b' d'
  HC : Hn (fun x y => InH a b d x y ∧ InH c e f x y) A B G
  ix : a' * d' * (A * G) = a * d * (c * f)
  sz1 : a ≤ 9
  sz2 : d ≤ 9
  sz3 : c ≤ 27
  sz4 : f ≤ 27
  sz5 : 0 ≤ e0 ∧ e0 ≤ 51
  sz6 : A ≤ 729
  sz7 : G ≤ 81
theorem Bo.jd {S T : List (Int × Int)} {a b d c e e0 f a' b' d' A B G : Int} (H : Bo S T a b d c e e0 f a' b' d' A B G) : a' ∣ a ∧ d' ∣ d ∧ a' ≤ 9 ∧ d' ≤ 9 ∧ a' * d' ∣ a * d ∧ a' * d' ∣ c * f := by
  have lL := H.kS.hn.norm.lat
  have lM := H.kT.hn.norm.lat
  obtain ⟨k1, k2, _⟩ := sub_dvd H.HJ H.kS.hn.norm (fun x y z => jn_left lM z)
  have s1 := H.sz1
  have s2 := H.sz2
  have l1 := Int.le_of_dvd H.kS.hn.a0 k1
  have l2 := Int.le_of_dvd H.kS.hn.d0 k2
  exact ⟨k1, k2, by omega, by omega, sub_ix H.HJ H.kS.hn.norm (fun x y z => jn_left lM z), sub_ix H.HJ H.kT.hn.norm (fun x y z => jn_right lL z)⟩
theorem Bo.kJ {S T : List (Int × Int)} {a b d c e e0 f a' b' d' A B G : Int} (H : Bo S T a b d c e e0 f a' b' d' A B G) : KG [(a', b'), (0, d')] a' b' d' := by
  obtain ⟨_, _, h1, h2, _⟩ := H.jd
  exact kg_pd H.HJ (by omega) (by omega)
theorem Bo.kC {S T : List (Int × Int)} {a b d c e e0 f a' b' d' A B G : Int} (H : Bo S T a b d c e e0 f a' b' d' A B G) : KG [(A, B), (0, G)] A B G := by
  have := H.sz6
  have := H.sz7
  exact kg_pd H.HC (by omega) (by omega)
theorem Bo.kST {S T : List (Int × Int)} {a b d c e e0 f a' b' d' A B G : Int} (H : Bo S T a b d c e e0 f a' b' d' A B G) : KG (S ++ T) a' b' d' := by
  have l1 := H.sS.l2
  have l2 := H.sT.l2
  exact ⟨H.kS.app H.kT (by omega), H.HJ.congr (fun x y => (H.kS.jn H.kT x y).symm)⟩
def bE (cs : Ow) (S T : List (Int × Int)) (a b d c e0 f a' b' d' A B G : Int) (z3 z4 z5 z6 z7 z8 z9 z16 z17 z18 z19 z20 : Sl) : DL.Env := [.bo cs, .im (pd a b d), .im (pd c e0 f), z3, z4, z5, z6, z7, z8, z9, .im (gD S), .im (gD T), .im (pd a' b' d'), .im (pd A B G), .im (.int (a * d)), .im (.int (c * f)), z16, z17, z18, z19, z20]
variable {S T : List (Int × Int)} {a b d c e e0 f a' b' d' A B G : Int} {cs : Ow} {P : D → Ow → Prop} {z3 z4 z5 z6 z7 z8 z9 z16 z17 z18 z19 z20 : Sl}
theorem mul81 {x y : Int} (hx : 0 < x) (hy : 0 < y) (h1 : x ≤ 2000) (h2 : y ≤ 2000) : CMulW x y ∧ Bd 101 (x * y) ∧ 0 < x * y := by
  refine ⟨mulB (k := 11) (m := 11) (bdX (by omega) (by omega)) (bdX (by omega) (by omega)) (by omega) (by omega), ?_, Int.mul_pos hx hy⟩
  exact ((bdX (by omega) (by omega) : Bd 11 x).mul (bdX (by omega) (by omega) : Bd 11 y)).mono (by omega)
theorem l_bo14 (H : Bo S T a b d c e e0 f a' b' d' A B G) (h : P (.bool true) cs) : bo14 { nx := fun e => lentEnd P .none e, rt := lentEnd P } (bE cs S T a b d c e0 f a' b' d' A B G z3 z4 z5 z6 z7 z8 z9 z16 z17 z18 z19 z20) := by
  have h1 := H.sz1
  have h2 := H.sz2
  have h3 := H.sz3
  have h4 := H.sz4
  have a0 := H.kS.hn.a0
  have d0 := H.kS.hn.d0
  have c0 := H.kT.hn.a0
  have f0 := H.kT.hn.d0
  obtain ⟨_, _, _, _, j1, j2⟩ := H.jd
  obtain ⟨_, m2, m3⟩ := mul81 a0 d0 (by omega) (by omega)
  obtain ⟨_, n2, n3⟩ := mul81 c0 f0 (by omega) (by omega)
  unfold bo14 bE
  simp
  refine sp_law_common ?_
  simp
  have g1 : 0 < ((Int.gcd (a * d) (c * f) : Nat) : Int) := (lc_facts m3 n3).g0
  by_cases cc : 1 < ((Int.gcd (a * d) (c * f) : Nat) : Int)
  · rw [decide_eq_true cc]
    exact h
  · rw [decide_eq_false cc]
    have jg := Int.dvd_coe_gcd j1 j2
    have e1 : ((Int.gcd (a * d) (c * f) : Nat) : Int) = 1 := by omega
    rw [e1] at jg
    have a'0 := H.HJ.a0
    have d'0 := H.HJ.d0
    have p0 := Int.mul_pos a'0 d'0
    have p1 : a' * d' = 1 := by have := Int.le_of_dvd (by omega) jg; omega
    have ka : a' ∣ 1 := ⟨d', p1.symm⟩
    have kd : d' ∣ 1 := ⟨a', by rw [Int.mul_comm]; exact p1.symm⟩
    have ea : a' = 1 := by have := Int.le_of_dvd (by omega) ka; omega
    have ed : d' = 1 := by have := Int.le_of_dvd (by omega) kd; omega
    have eb : b' = 0 := by have := H.HJ.b0; have := H.HJ.bd; omega
    have ei := H.ix
    rw [p1, Int.one_mul] at ei
    show gEq (pd a' b' d') (pd 1 0 1) _
    rw [gEq_pd, ea, ed, eb]
    simp
    refine k_index H.kC ⟨mulB m2 n2 (by omega) (by omega), ?_⟩
    simp
    rw [ei]
    simp
    exact h
def Sub (a b d c e f : Int) : Prop := ∀ x y, InH c e f x y → InH a b d x y
theorem Bo.cJ (H : Bo S T a b d c e e0 f a' b' d' A B G) (x y : Int) : InH A B G x y → InH a' b' d' x y := fun z =>
  (H.HJ.eq x y).mp (jn_left H.kT.hn.norm.lat ((H.HC.eq x y).mpr z).1)
theorem Bo.cS (H : Bo S T a b d c e e0 f a' b' d' A B G) (x y : Int) : InH A B G x y → InH a b d x y := fun z => ((H.HC.eq x y).mpr z).1
theorem Bo.sJ (H : Bo S T a b d c e e0 f a' b' d' A B G) (x y : Int) : InH a b d x y → InH a' b' d' x y := fun z =>
  (H.HJ.eq x y).mp (jn_left H.kT.hn.norm.lat z)
theorem Bo.tJ (H : Bo S T a b d c e e0 f a' b' d' A B G) (x y : Int) : InH c e f x y → InH a' b' d' x y := fun z =>
  (H.HJ.eq x y).mp (jn_right H.kS.hn.norm.lat z)
theorem Bo.eqJ (H : Bo S T a b d c e e0 f a' b' d' A B G) : (a' = a ∧ b' = b ∧ d' = d) ↔ Sub a b d c e f := by
  constructor
  · rintro ⟨rfl, rfl, rfl⟩ x y z
    exact H.tJ x y z
  · intro s
    have : Hn (Jn (InH a b d) (InH c e f)) a b d := H.kS.hn.norm.congr (fun x y => ⟨fun z => jn_left H.kT.hn.norm.lat z, fun ⟨u, v, p, q⟩ => by
      have := H.kS.hn.norm.lat.add p (s _ _ q)
      rw [show u + (x - u) = x by omega, show v + (y - v) = y by omega] at this
      exact this⟩)
    exact H.HJ.uniq this
theorem Bo.eqC (H : Bo S T a b d c e e0 f a' b' d' A B G) : (A = c ∧ B = e ∧ G = f) ↔ Sub a b d c e f := by
  constructor
  · rintro ⟨rfl, rfl, rfl⟩ x y z
    exact H.cS x y z
  · intro s
    exact H.HC.uniq (H.kT.hn.norm.congr (fun x y => ⟨fun z => ⟨s x y z, z⟩, fun z => z.2⟩))
theorem Bo.eqS (H : Bo S T a b d c e e0 f a' b' d' A B G) : (a = c ∧ b = e ∧ d = f) ↔ (Sub a b d c e f ∧ a * d = c * f) := by
  constructor
  · rintro ⟨rfl, rfl, rfl⟩
    exact ⟨fun x y z => z, rfl⟩
  · rintro ⟨s, z⟩
    exact sub_same H.kS.hn.norm H.kT.hn.norm s z
theorem l_bo13 (H : Bo S T a b d c e e0 f a' b' d' A B G) (h : P (.bool true) cs) : bo13 { nx := fun e => lentEnd P .none e, rt := lentEnd P } (bE cs S T a b d c e0 f a' b' d' A B G z3 z4 z5 z6 z7 z8 z9 z16 z17 z18 z19 z20) := by
  have hn := fun z16 z17 z18 z19 z20 => l_bo14 (z3 := z3) (z4 := z4) (z5 := z5) (z6 := z6) (z7 := z7) (z8 := z8) (z9 := z9) (z16 := z16) (z17 := z17) (z18 := z18) (z19 := z19) (z20 := z20) H h
  unfold bo13
  revert hn
  generalize bo14 = t
  intro hn
  unfold bE at *
  simp
  refine k_within' H.kC H.kJ H.cJ ?_
  simp
  refine k_within' H.kC H.kS H.cS ?_
  simp
  refine k_within' H.kS H.kJ H.sJ ?_
  simp
  exact hn _ _ _ _ _
def lso (so : Bool) : D := .list [.bool so, .bool so, .bool so, .bool so]
theorem l_bo12 (H : Bo S T a b d c e e0 f a' b' d' A B G) {so : Bool} (hso : so = true ↔ Sub a b d c e f) (h : P (.bool true) cs) : bo12 { nx := fun e => lentEnd P .none e, rt := lentEnd P } (bE cs S T a b d c e0 f a' b' d' A B G z3 z4 z5 z6 z7 z8 z9 z16 z17 z18 (.im (.bool so)) (.im (lso so))) := by
  have hn := fun z16 z17 z18 z19 z20 => l_bo13 (z3 := z3) (z4 := z4) (z5 := z5) (z6 := z6) (z7 := z7) (z8 := z8) (z9 := z9) (z16 := z16) (z17 := z17) (z18 := z18) (z19 := z19) (z20 := z20) H h
  unfold bo12
  revert hn
  generalize bo13 = t
  intro hn
  unfold bE at *
  simp
  have e4 : (List.replicate (Int.toNat 4) [(.bool so : D)]).flatten = [.bool so, .bool so, .bool so, .bool so] := rfl
  have pl : Pl 1 (lso so) := pl_list (fun d hd => by
    simp at hd
    subst hd
    exact pl_bool)
  refine gNe_self pl (by decide) ?_
  have m3 := Int.mul_pos H.kS.hn.a0 H.kS.hn.d0
  cases so with
  | true =>
    have hs : Sub a b d c e f := hso.mp rfl
    have hd := sub_ix H.kS.hn.norm H.kT.hn.norm hs
    have he : (decide (a = c ∧ b = e ∧ d = f)) = decide (a * d = c * f) := by
      rw [decide_eq_decide, H.eqS]
      exact ⟨fun z => z.2, fun z => ⟨hs, z⟩⟩
    simp
    refine ⟨m3, ?_⟩
    rw [if_pos (Int.emod_eq_zero_of_dvd hd)]
    refine k_same H.kS H.kT ?_
    rw [he]
    simp
    exact hn _ _ _ _ _
  | false =>
    have he : (decide (a = c ∧ b = e ∧ d = f)) = false := by
      rw [decide_eq_false_iff_not, H.eqS]
      intro z
      exact absurd (hso.mpr z.1) (by simp)
    simp
    refine k_same H.kS H.kT ?_
    rw [he]
    simp
    exact hn _ _ _ _ _
theorem l_bo11 (H : Bo S T a b d c e e0 f a' b' d' A B G) {so : Bool} (hso : so = true ↔ Sub a b d c e f) (h : P (.bool true) cs) : bo11 { nx := fun e => lentEnd P .none e, rt := lentEnd P } (bE cs S T a b d c e0 f a' b' d' A B G z3 z4 z5 z6 z7 z8 z9 z16 z17 z18 (.im (.bool so)) z20) := by
  have hn := fun z16 z17 z18 => l_bo12 (z3 := z3) (z4 := z4) (z5 := z5) (z6 := z6) (z7 := z7) (z8 := z8) (z9 := z9) (z16 := z16) (z17 := z17) (z18 := z18) H hso h
  have so2 : ∀ w : Bool, (w = true ↔ Sub a b d c e f) → w = so := fun w hw => by
    cases w <;> cases so <;> simp_all
  unfold bo11
  revert hn
  generalize bo12 = t
  intro hn
  unfold bE at *
  simp
  refine k_within H.kT H.kS (fun w hw => ?_)
  obtain rfl := so2 w hw
  refine k_pair H.kS ?_
  rw [gEq_pd, so2 (decide (a' = a ∧ b' = b ∧ d' = d)) (by rw [decide_eq_true_eq]; exact H.eqJ)]
  refine k_pair H.kT ?_
  rw [gEq_pd, so2 (decide (A = c ∧ B = e ∧ G = f)) (by rw [decide_eq_true_eq]; exact H.eqC)]
  refine k_same H.kJ H.kS ?_
  rw [so2 (decide (a' = a ∧ b' = b ∧ d' = d)) (by rw [decide_eq_true_eq]; exact H.eqJ)]
  exact hn _ _ _
end Nk66

namespace Nk66
open PySem PySem.Spec PyProof.Rows L2 DL
variable [Clss]
variable {S T : List (Int × Int)} {a b d c e e0 f a' b' d' A B G : Int} {cs : Ow} {P : D → Ow → Prop} {z3 z4 z5 z6 z7 z8 z9 z16 z17 z18 z19 z20 : Sl}
theorem eqv_nil (B : List (Int × Int)) : PyData.eqv (.list (B.map pt)) (.list []) = B.isEmpty := by
  cases B <;> simp [PyData.eqv, PyData.eqvAll]
/-- what a filter has kept so far -/
def Kp (L : List (Int × Int)) (C : Int → Int → Prop) (i : Nat) (acc : List D) : Prop := ∃ B : List (Int × Int), acc = B.map pt ∧ B.length ≤ i ∧ (∀ p ∈ B, p ∈ L ∧ ¬ C p.1 p.2) ∧ ∀ (j : Nat) (p : Int × Int), L[j]? = some p → j < i → ¬ C p.1 p.2 → p ∈ B
theorem kp_yes {L : List (Int × Int)} {C : Int → Int → Prop} {i : Nat} {acc : List D} {p : Int × Int} (hp : L[i]? = some p) (h : C p.1 p.2) (k : Kp L C i acc) : Kp L C (i + 1) acc := by
  obtain ⟨B, h1, h2, h3, h4⟩ := k
  refine ⟨B, h1, by omega, h3, fun j q hq hj hc => ?_⟩
  by_cases z : j = i
  · subst z
    rw [hp] at hq
    cases hq
    exact absurd h hc
  · exact h4 j q hq (by omega) hc
theorem kp_no {L : List (Int × Int)} {C : Int → Int → Prop} {i : Nat} {acc : List D} {p : Int × Int} (hp : L[i]? = some p) (h : ¬ C p.1 p.2) (k : Kp L C i acc) : Kp L C (i + 1) (acc ++ [pt p]) := by
  obtain ⟨B, h1, h2, h3, h4⟩ := k
  refine ⟨B ++ [p], by rw [h1]; simp, by simp; omega, fun q hq => ?_, fun j q hq hj hc => ?_⟩
  · rcases List.mem_append.mp hq with z | z
    · exact h3 q z
    · rw [List.mem_singleton] at z
      subst z
      exact ⟨mem_get hp, h⟩
  · by_cases z : j = i
    · subst z
      rw [hp] at hq
      cases hq
      exact List.mem_append_right _ (by simp)
    · exact List.mem_append_left _ (h4 j q hq (by omega) hc)
theorem kp_end {L : List (Int × Int)} {C : Int → Int → Prop} {acc : List D} (k : Kp L C L.length acc) : ∃ B : List (Int × Int), acc = B.map pt ∧ (B.isEmpty = true ↔ ∀ p ∈ L, C p.1 p.2) := by
  obtain ⟨B, h1, h2, h3, h4⟩ := k
  refine ⟨B, h1, ?_⟩
  constructor
  · intro z p hp
    rw [List.isEmpty_iff] at z
    subst z
    obtain ⟨j, hj, rfl⟩ := List.mem_iff_getElem.mp hp
    rcases Classical.em (C L[j].1 L[j].2) with y | y
    · exact y
    · exact absurd (h4 j _ (List.getElem?_eq_getElem hj) hj y) (by simp)
  · intro z
    cases B with
    | nil => rfl
    | cons p r =>
      have := h3 p (by simp)
      exact absurd (z p this.1) this.2
theorem kp_len {L : List (Int × Int)} {C : Int → Int → Prop} {i : Nat} {acc : List D} (k : Kp L C i acc) : acc.length ≤ i := by
  obtain ⟨B, h1, h2, _⟩ := k
  rw [h1, List.length_map]
  exact h2
theorem l_bo10 (H : Bo S T a b d c e e0 f a' b' d' A B G) (h : P (.bool true) cs) : bo10 { nx := fun e => lentEnd P .none e, rt := lentEnd P } (bE cs S T a b d c e0 f a' b' d' A B G z3 z4 z5 z6 z7 z8 z9 z16 z17 .un z19 z20) := by
  have hn := fun so (hso : so = true ↔ Sub a b d c e f) z16 z17 z18 z20 => l_bo11 (z3 := z3) (z4 := z4) (z5 := z5) (z6 := z6) (z7 := z7) (z8 := z8) (z9 := z9) (z16 := z16) (z17 := z17) (z18 := z18) (z20 := z20) H hso h
  have l2 := H.sT.l2
  unfold bo10
  revert hn
  generalize bo11 = t
  intro hn
  simp
  refine comp_tup (ds := T.map pt) (e1 := bE cs S T a b d c e0 f a' b' d' A B G z3 z4 z5 z6 z7 z8 z9 z16 z17 .un z19 z20) (fun Q z => ?_) (fun i acc e => Kp T (InH a b d) i acc ∧ e = bE cs S T a b d c e0 f a' b' d' A B G z3 z4 z5 z6 z7 z8 z9 z16 z17 .un z19 z20) ⟨⟨[], rfl, by simp, by simp, fun j p _ hj => absurd hj (by omega)⟩, rfl⟩ ?_ ?_
  · unfold bE gD at *
    simp
    exact z
  · rintro i x acc e2 hx ⟨hk, rfl⟩
    obtain ⟨p, hp, rfl⟩ := map_get hx
    have hi := (List.getElem?_eq_some_iff.mp hp).1
    have hl := kp_len hk
    unfold bE
    simp
    refine k_isin H.kS (H.sT.bd p (mem_get hp)) (fun w hw => ?_)
    cases w with
    | true =>
      simp
      exact kp_yes hp (hw.mp rfl) hk
    | false =>
      simp
      exact ⟨sz (by omega), kp_no hp (fun z => absurd (hw.mpr z) (by simp)) hk⟩
  · rintro acc e2 ⟨hk, rfl⟩
    rw [List.length_map] at hk
    obtain ⟨B', rfl, hB⟩ := kp_end hk
    unfold bE
    simp
    refine gEq_any (shaped_pts B') (shaped_pts []) ?_
    rw [eqv_nil]
    exact hn _ (hB.trans ((forall_congr' fun p => imp_congr_right fun _ => (H.kS.hn.eq p.1 p.2).symm).trans (all_in H.kT H.kS))) _ _ _ _
theorem l_bo9 (H : Bo S T a b d c e e0 f a' b' d' A B G) (h : P (.bool true) cs) : bo9 { nx := fun e => lentEnd P .none e, rt := lentEnd P } (bE cs S T a b d c e0 f a' b' d' A B G z3 z4 z5 z6 z7 z8 z9 z16 z17 .un z19 z20) := by
  have hn := fun z16 z17 z19 z20 => l_bo10 (z3 := z3) (z4 := z4) (z5 := z5) (z6 := z6) (z7 := z7) (z8 := z8) (z9 := z9) (z16 := z16) (z17 := z17) (z19 := z19) (z20 := z20) H h
  have l2 := H.sT.l2
  have l2' := H.sS.l2
  have h6 := H.sz6
  have h7 := H.sz7
  have A0 := H.HC.a0
  have B0 := H.HC.b0
  have B1 := H.HC.bd
  unfold bo9
  revert hn
  generalize bo10 = t
  intro hn
  simp
  refine comp_tup (ds := (S ++ T).map pt) (e1 := bE cs S T a b d c e0 f a' b' d' A B G z3 z4 z5 z6 z7 z8 z9 z16 z17 .un z19 z20) (fun Q z => ?_) (fun i acc e => acc = [] ∧ e = bE cs S T a b d c e0 f a' b' d' A B G z3 z4 z5 z6 z7 z8 z9 z16 z17 .un z19 z20) ⟨rfl, rfl⟩ ?_ ?_
  · have eg : gD (S ++ T) = .tuple ((S ++ T).map pt) := rfl
    rw [← eg] at z
    unfold bE at *
    simp
    exact ⟨Nat.le_of_lt (sz (by omega)), z⟩
  · rintro i x acc e2 hx ⟨rfl, rfl⟩
    obtain ⟨p, hp, rfl⟩ := map_get hx
    have hm := mem_get hp
    have bp : -1000 ≤ p.1 ∧ p.1 ≤ 1000 ∧ -1000 ≤ p.2 ∧ p.2 ≤ 1000 := by
      rcases List.mem_append.mp hm with z | z
      · exact H.sS.bd p z
      · exact H.sT.bd p z
    unfold bE
    simp
    refine k_isin H.kJ bp (fun w hw => ?_)
    have : w = true := hw.mpr ((H.kST.hn.eq _ _).mp (span_mem hm))
    subst this
    simp
  · rintro acc e2 ⟨rfl, rfl⟩
    unfold bE
    simp
    refine gNe_any (shaped_pts []) (shaped_pts []) ?_
    have e1 : PyData.eqv (.list []) (.list []) = true := eqv_nil []
    rw [e1]
    simp
    refine comp_tup (ds := [(A, B), (0, G)].map pt) (e1 := bE cs S T a b d c e0 f a' b' d' A B G z3 z4 z5 z6 z7 z8 z9 z16 z17 .un z19 z20) (fun Q z => ?_) (fun i acc e => acc = [] ∧ e = bE cs S T a b d c e0 f a' b' d' A B G z3 z4 z5 z6 z7 z8 z9 z16 z17 .un z19 z20) ⟨rfl, rfl⟩ ?_ ?_
    · unfold bE at *
      simp
      exact z
    · rintro i x acc e2 hx ⟨rfl, rfl⟩
      obtain ⟨p, hp, rfl⟩ := map_get hx
      have hm := mem_get hp
      have bp : -1000 ≤ p.1 ∧ p.1 ≤ 1000 ∧ -1000 ≤ p.2 ∧ p.2 ≤ 1000 := by
        simp at hm
        rcases hm with rfl | rfl
        · exact ⟨by show -1000 ≤ A; omega, by show A ≤ 1000; omega, by show -1000 ≤ B; omega, by show B ≤ 1000; omega⟩
        · exact ⟨by show (-1000 : Int) ≤ 0; omega, by show (0 : Int) ≤ 1000; omega, by show -1000 ≤ G; omega, by show G ≤ 1000; omega⟩
      have hc := (H.HC.eq _ _).mpr ((H.kC.hn.eq _ _).mp (span_mem hm))
      unfold bE
      simp
      refine k_isin H.kS bp (fun w hw => ?_)
      have : w = true := hw.mpr hc.1
      subst this
      simp
      refine k_isin H.kT bp (fun w hw => ?_)
      have : w = true := hw.mpr hc.2
      subst this
      simp
    · rintro acc e2 ⟨rfl, rfl⟩
      unfold bE
      simp
      refine gNe_any (shaped_pts []) (shaped_pts []) ?_
      rw [e1]
      simp
      exact hn _ _ _ _
theorem l_bo8 (H : Bo S T a b d c e e0 f a' b' d' A B G) (h : P (.bool true) cs) : bo8 { nx := fun e => lentEnd P .none e, rt := lentEnd P } (bE cs S T a b d c e0 f a' b' d' A B G z3 z4 z5 z6 z7 z8 z9 z16 z17 .un z19 z20) := by
  have hn := fun z16 z17 z19 z20 => l_bo9 (z3 := z3) (z4 := z4) (z5 := z5) (z6 := z6) (z7 := z7) (z8 := z8) (z9 := z9) (z16 := z16) (z17 := z17) (z19 := z19) (z20 := z20) H h
  have h1 := H.sz1
  have h2 := H.sz2
  have h3 := H.sz3
  have h4 := H.sz4
  have h5 := H.sz5
  have h6 := H.sz6
  have h7 := H.sz7
  have A0 := H.HC.a0
  have B0 := H.HC.b0
  have B1 := H.HC.bd
  have a0 := H.kS.hn.a0
  have d0 := H.kS.hn.d0
  have b0 := H.kS.hn.b0
  have b1 := H.kS.hn.bd
  have c0 := H.kT.hn.a0
  have f0 := H.kT.hn.d0
  unfold bo8
  revert hn
  generalize bo9 = t
  intro hn
  rw [s_seq]
  refine for_rng2 (i0 := -12) (j := 13) (e1 := bE cs S T a b d c e0 f a' b' d' A B G z3 z4 z5 z6 z7 z8 z9 z16 z17 .un z19 z20) (fun Q z => ?_) (by omega) (fun i e => ∃ z16 z17, e = bE cs S T a b d c e0 f a' b' d' A B G z3 z4 z5 z6 z7 z8 z9 z16 z17 .un z19 z20) ⟨_, _, rfl⟩ ?_ ?_
  · simp
    exact z
  · rintro i e2 hi ⟨z16, z17, rfl⟩
    unfold bE
    simp
    refine for_rng2 (i0 := -12) (j := 13) (e1 := bE cs S T a b d c e0 f a' b' d' A B G z3 z4 z5 z6 z7 z8 z9 (.im (.int (-12 + i))) z17 .un z19 z20) (fun Q z => ?_) (by omega) (fun k e => ∃ z17, e = bE cs S T a b d c e0 f a' b' d' A B G z3 z4 z5 z6 z7 z8 z9 (.im (.int (-12 + i))) z17 .un z19 z20) ⟨_, rfl⟩ ?_ ?_
    · unfold bE at z
      simp
      exact z
    · rintro k e3 hk ⟨z17, rfl⟩
      unfold bE
      simp
      refine sp_law_is_in A0 (by omega) (by omega) (by omega) (by omega) (fun w1 hw1 => ?_)
      refine sp_law_is_in a0 d0 (by omega) (by omega) (by omega) (fun w2 hw2 => ?_)
      have hcap := H.HC.eq (-12 + (i : Int)) (-12 + (k : Int))
      cases w2 with
      | true =>
        simp
        refine sp_law_is_in c0 f0 (by omega) (by omega) (by omega) (fun w3 hw3 => ?_)
        rw [← H.he] at hw3
        have : w1 = w3 := by
          cases w1 <;> cases w3 <;> simp_all
        subst this
        simp
      | false =>
        have : w1 = false := by
          cases w1 <;> simp_all
        subst this
        simp
    · rintro e3 ⟨z17, rfl⟩
      exact ⟨_, _, rfl⟩
  · rintro e2 ⟨z16, z17, rfl⟩
    exact hn _ _ _ _
end Nk66

namespace Nk66
open PySem PySem.Spec PyProof.Rows L2 DL
variable [Clss]
variable {S T : List (Int × Int)} {a b d c e e0 f a' b' d' A B G : Int} {cs : Ow} {P : D → Ow → Prop} {z3 z4 z5 z6 z7 z8 z9 z12 z13 z14 z15 z16 z17 z18 z19 z20 : Sl}
theorem l_bo7 (H : Bo S T a b d c e e0 f a' b' d' A B G) (h : P (.bool true) cs) : bo7 { nx := fun e => lentEnd P .none e, rt := lentEnd P } (bE cs S T a b d c e0 f a' b' d' A B G z3 z4 z5 z6 z7 z8 z9 z16 z17 .un z19 z20) := by
  have hn := l_bo8 (z3 := z3) (z4 := z4) (z5 := z5) (z6 := z6) (z7 := z7) (z8 := z8) (z9 := z9) (z16 := z16) (z17 := z17) (z19 := z19) (z20 := z20) H h
  have l1 := H.sS.l2
  have l2 := H.sT.l2
  unfold bo7
  revert hn
  generalize bo8 = t
  intro hn
  unfold bE at *
  simp
  refine k_joint' H.kT H.kS (by omega) (H.HJ.congr jn_comm) ?_
  rw [gNe_pd]
  simp
  refine k_shared' H.kT H.kS (H.HC.congr (fun x y => And.comm)) ?_
  rw [gNe_pd]
  simp
  refine k_joint' H.kS H.kS (by omega) (H.kS.hn.norm.congr (fun x y => (jn_self H.kS.hn.norm.lat x y).symm)) (k_pair H.kS ?_)
  rw [gNe_pd]
  simp
  refine k_shared' H.kT H.kT (H.kT.hn.norm.congr (fun x y => (and_self_iff).symm)) (k_pair H.kT ?_)
  rw [gNe_pd]
  simp
  exact hn
theorem l_bo6 (H : Bo S T a b d c e e0 f a' b' d' A B G) (h : P (.bool true) cs) : bo6 { nx := fun e => lentEnd P .none e, rt := lentEnd P } (bE cs S T a b d c e0 f a' b' d' A B G z3 z4 z5 z6 z7 z8 z9 z16 z17 .un z19 z20) := by
  have hn := l_bo7 (z3 := z3) (z4 := z4) (z5 := z5) (z6 := z6) (z7 := z7) (z8 := z8) (z9 := z9) (z16 := z16) (z17 := z17) (z19 := z19) (z20 := z20) H h
  have l1 := H.sS.l2
  have l2 := H.sT.l2
  have h1 := H.sz1
  have h2 := H.sz2
  have h3 := H.sz3
  have h4 := H.sz4
  have h6 := H.sz6
  have h7 := H.sz7
  obtain ⟨_, _, j1, j2, _⟩ := H.jd
  obtain ⟨_, q1, _⟩ := mul81 H.HJ.a0 H.HJ.d0 (by omega) (by omega)
  obtain ⟨_, q2, _⟩ := mul81 H.HC.a0 H.HC.d0 (by omega) (by omega)
  obtain ⟨_, q3, _⟩ := mul81 H.kS.hn.a0 H.kS.hn.d0 (by omega) (by omega)
  obtain ⟨_, q4, _⟩ := mul81 H.kT.hn.a0 H.kT.hn.d0 (by omega) (by omega)
  have lz : (S.map pt).length + (T.map pt).length ≤ sizeLine := Nat.le_of_lt (sz (by rw [List.length_map, List.length_map]; omega))
  unfold bo6
  revert hn
  generalize bo7 = t
  intro hn
  unfold bE at *
  simp only [List.length_map] at lz
  simp
  refine k_index H.kJ ⟨lz, k_lawindex H.kST ?_⟩
  simp
  refine k_index H.kJ (k_index H.kC ?_)
  simp
  refine ⟨mulB q1 q2 (by omega) (by omega), mulB q3 q4 (by omega) (by omega), ?_⟩
  rw [if_pos H.ix]
  refine ⟨lz, k_pair H.kST ?_⟩
  rw [gNe_pd]
  simp
  exact hn
theorem l_bo5 (H : Bo S T a b d c e e0 f a' b' d' A B G) (h : P (.bool true) cs) : bo5 { nx := fun e => lentEnd P .none e, rt := lentEnd P } [.bo cs, .im (pd a b d), .im (pd c e0 f), z3, z4, z5, z6, z7, z8, z9, .im (gD S), .im (gD T), .im (pd a' b' d'), .im (pd A B G), z14, z15, z16, z17, .un, z19, z20] := by
  have hn := l_bo6 (z3 := z3) (z4 := z4) (z5 := z5) (z6 := z6) (z7 := z7) (z8 := z8) (z9 := z9) (z16 := z16) (z17 := z17) (z19 := z19) (z20 := z20) H h
  have h1 := H.sz1
  have h2 := H.sz2
  have h3 := H.sz3
  have h4 := H.sz4
  unfold bo5
  revert hn
  generalize bo6 = t
  intro hn
  unfold bE pd at *
  simp
  exact ⟨(mul81 H.kS.hn.a0 H.kS.hn.d0 (by omega) (by omega)).1, (mul81 H.kT.hn.a0 H.kT.hn.d0 (by omega) (by omega)).1, hn⟩
/-- the two grids before their joint is found -/
structure Bp (S T : List (Int × Int)) (a b d c e e0 f : Int) : Prop where
  kS : KG S a b d
  kT : KG T c e f
  sS : Stp S a b d
  sT : Stp T c e0 f
  he : ∀ x y, InH c e f x y ↔ InH c e0 f x y
  sz1 : a ≤ 9
  sz2 : d ≤ 9
  sz3 : c ≤ 27
  sz4 : f ≤ 27
  sz5 : 0 ≤ e0 ∧ e0 ≤ 51
  sx : (a ∣ c ∧ c ≤ 81) ∨ (a ≤ 9 ∧ c ≤ 9)
  sy : (d ∣ f ∧ f ≤ 81) ∨ (d ≤ 9 ∧ f ≤ 9)
theorem l_bo4 (H : Bp S T a b d c e e0 f) (h : P (.bool true) cs) : bo4 { nx := fun e => lentEnd P .none e, rt := lentEnd P } [.bo cs, .im (pd a b d), .im (pd c e0 f), z3, z4, z5, z6, z7, z8, z9, .im (gD S), .im (gD T), z12, z13, z14, z15, z16, z17, .un, z19, z20] := by
  have hn := fun a' b' d' A B G H => l_bo5 (S := S) (T := T) (a := a) (b := b) (d := d) (c := c) (e := e) (e0 := e0) (f := f) (a' := a') (b' := b') (d' := d') (A := A) (B := B) (G := G) (z3 := z3) (z4 := z4) (z5 := z5) (z6 := z6) (z7 := z7) (z8 := z8) (z9 := z9) (z14 := z14) (z15 := z15) (z16 := z16) (z17 := z17) (z19 := z19) (z20 := z20) H h
  have l1 := H.sS.l2
  have l2 := H.sT.l2
  unfold bo4
  revert hn
  generalize bo5 = t
  intro hn
  simp
  refine k_joint H.kS H.kT (by omega) (fun a' b' d' HJ => ?_)
  refine k_shared H.kS H.kT (fun A B G many HC s => ?_)
  obtain ⟨k1, k2⟩ := shp_le H.kS.hn.a0 H.kS.hn.d0 H.kT.hn.a0 H.kT.hn.d0 s H.sz2 H.sx H.sy
  exact hn a' b' d' A B G ⟨H.kS, H.kT, H.sS, H.sT, H.he, HJ, HC, index_law (B := B) H.kS.hn.norm H.kT.hn.norm HJ s.hm s.hA s.hD, H.sz1, H.sz2, H.sz3, H.sz4, H.sz5, k1, k2⟩
end Nk66

namespace Nk66
open PySem PySem.Spec PyProof.Rows L2 DL
variable [Clss]
variable {a b d c e0 f : Int} {cs : Ow} {P : D → Ow → Prop} {z3 z4 z5 z6 z7 z8 z9 z12 z13 z14 z15 z16 z17 z18 z19 z20 : Sl}
theorem stp_kg {S : List (Int × Int)} {a b d e : Int} (s : Stp S a e d) (a0 : 0 < a) (d0 : 0 < d) (b0 : 0 ≤ b) (b1 : b < d) (he : ∀ x y, InH a b d x y ↔ InH a e d x y) : KG S a b d := ⟨s.grid, a0, d0, b0, b1, fun x y => (s.eq x y).trans (he x y).symm⟩
theorem l_bo3 (hd : Dice cs) (a0 : 0 < a) (a1 : a ≤ 9) (b0 : 0 ≤ b) (b1 : b < d) (d1 : d ≤ 9) (c0 : 0 < c) (c1 : c ≤ 27) (f0 : 0 < f) (f1 : f ≤ 27) (e00 : 0 ≤ e0) (e01 : e0 ≤ 51) (sx : (a ∣ c ∧ c ≤ 81) ∨ (a ≤ 9 ∧ c ≤ 9)) (sy : (d ∣ f ∧ f ≤ 81) ∨ (d ≤ 9 ∧ f ≤ 9)) (h : ∀ cs, Dice cs → P (.bool true) cs) : bo3 { nx := fun e => lentEnd P .none e, rt := lentEnd P } [.bo cs, .im (pd a b d), .im (pd c e0 f), z3, z4, z5, z6, z7, z8, z9, .un, .un, z12, z13, z14, z15, z16, z17, .un, z19, z20] := by
  have hn := fun S T e cs H hd => l_bo4 (S := S) (T := T) (cs := cs) (a := a) (b := b) (d := d) (c := c) (e := e) (e0 := e0) (f := f) (z3 := z3) (z4 := z4) (z5 := z5) (z6 := z6) (z7 := z7) (z8 := z8) (z9 := z9) (z12 := z12) (z13 := z13) (z14 := z14) (z15 := z15) (z16 := z16) (z17 := z17) (z19 := z19) (z20 := z20) (P := P) H (h cs hd)
  unfold bo3
  revert hn
  generalize bo4 = t
  intro hn
  unfold pd at *
  simp
  refine sp_steps hd a0 (by omega) b0 (by omega) (by omega) (by omega) (fun S cs1 sS hd1 => ?_)
  refine sp_steps hd1 c0 c1 e00 e01 f0 f1 (fun T cs2 sT hd2 => ?_)
  have hr : ∀ x y, InH c (e0 - e0 / f * f) f x y ↔ InH c e0 f x y := fun x y => inH_red
  obtain ⟨k1, k2, _⟩ := div_facts (p := e0) f0
  exact hn S T (e0 - e0 / f * f) cs2 ⟨stp_kg sS a0 (by omega) b0 b1 (fun x y => Iff.rfl), stp_kg sT c0 f0 k1 k2 hr, sS, sT, hr, a1, d1, c1, f1, ⟨e00, e01⟩, sx, sy⟩ hd2
theorem sp_both {cs : Ow} {P : D → Ow → Prop} (hd : Dice cs) (h : ∀ cs, Dice cs → P (.bool true) cs) : C__law_both_right cs [] P := by
  refine u__law_both_right ?_
  rw [bo_all]
  unfold bo0 bo1 bo2
  have hn := fun a b d c e0 f cs z3 z4 z5 z6 z7 z8 z9 => l_bo3 (a := a) (b := b) (d := d) (c := c) (e0 := e0) (f := f) (cs := cs) (z3 := z3) (z4 := z4) (z5 := z5) (z6 := z6) (z7 := z7) (z8 := z8) (z9 := z9) (z12 := .un) (z13 := .un) (z14 := .un) (z15 := .un) (z16 := .un) (z17 := .un) (z19 := .un) (z20 := .un) (P := P)
  revert hn
  generalize bo3 = t
  intro hn
  simp
  refine sp_drawn hd (by omega) (by omega) (fun a b d cs1 a1 a2 b1 b2 d1 hd1 => ?_)
  refine sp_drawn hd1 (by omega) (by omega) (fun c e f cs2 c1 c2 e1 e2 f1 hd2 => ?_)
  refine sp_roll hd2 (by omega) (by omega) (fun r cs3 r0 r1 hd3 => ?_)
  simp
  by_cases cr : r = 0
  · rw [if_pos cr]
    unfold pd
    simp
    refine sp_roll hd3 (by omega) (by omega) (fun p cs4 p0 p1 hd4 => ?_)
    simp
    refine sp_roll hd4 (by omega) (by omega) (fun q cs5 q0 q1 hd5 => ?_)
    simp
    refine sp_roll hd5 (by omega) (by omega) (fun s cs6 s0 s1 hd6 => ?_)
    simp
    have hp : p = 0 ∨ p = 1 ∨ p = 2 := by omega
    have hq : q = 0 ∨ q = 1 ∨ q = 2 ∨ q = 3 := by omega
    have hs : s = 0 ∨ s = 1 ∨ s = 2 := by omega
    have b1' : 0 < (1 + p) * a ∧ (1 + p) * a ≤ 27 := by rcases hp with rfl | rfl | rfl <;> omega
    have b2' : 0 ≤ (1 + p) * b ∧ (1 + p) * b ≤ 24 := by rcases hp with rfl | rfl | rfl <;> omega
    have b3' : 0 ≤ q * d ∧ q * d ≤ 27 := by rcases hq with rfl | rfl | rfl | rfl <;> omega
    have b4' : 0 < (1 + s) * d ∧ (1 + s) * d ≤ 27 := by rcases hs with rfl | rfl | rfl <;> omega
    have mm : ∀ x y : Int, -2000 ≤ x → x ≤ 2000 → -2000 ≤ y → y ≤ 2000 → CMulW x y := fun x y x1 x2 y1 y2 => mulB (k := 11) (m := 11) (bdX x1 x2) (bdX y1 y2) (by omega) (by omega)
    refine ⟨mm _ _ (by omega) (by omega) (by omega) (by omega), mm _ _ (by omega) (by omega) (by omega) (by omega), mm _ _ (by omega) (by omega) (by omega) (by omega), mm _ _ (by omega) (by omega) (by omega) (by omega), ?_⟩
    exact hn a b d _ _ _ cs6 _ _ _ _ _ _ _ hd6 (by omega) a2 b1 b2 d1 b1'.1 b1'.2 b4'.1 b4'.2 (by omega) (by omega) (.inl ⟨⟨1 + p, Int.mul_comm _ _⟩, by omega⟩) (.inl ⟨⟨1 + s, Int.mul_comm _ _⟩, by omega⟩) h
  · rw [if_neg cr]
    exact hn a b d c e f cs3 _ _ _ _ _ _ _ hd3 (by omega) a2 b1 b2 d1 (by omega) (by omega) (by omega) (by omega) e1 (by omega) (.inr ⟨a2, c2⟩) (.inr ⟨d1, f1⟩) h
end Nk66

namespace Nk66
open PySem PySem.Spec PyProof.Rows L2 DL
variable [Clss]
def th10 : DSt := (dRet (dAndV (dBin gEq (dCall C_joint_grid (dCons (dVar 12) (dCons (dVar 13) dNil))) (dCall C_grid_pair (dCons (dTup (dCons (dTup (dCons (dBin gMul (dVar 14) (dVar 8)) (dCons (dBin gMul (dVar 14) (dVar 9)) dNil))) (dCons (dTup (dCons (dC (.int 0)) (dCons (dBin gMul (dVar 14) (dVar 11)) dNil))) dNil))) dNil))) (dBin gEq (dCall C_shared_grid (dCons (dVar 12) (dCons (dVar 13) dNil))) (dCall C_grid_pair (dCons (dTup (dCons (dTup (dCons (dBin gMul (dVar 15) (dVar 8)) (dCons (dBin gMul (dVar 15) (dVar 9)) dNil))) (dCons (dTup (dCons (dC (.int 0)) (dCons (dBin gMul (dVar 15) (dVar 11)) dNil))) dNil))) dNil)))))
def th9 : DSt := dSeq (dIfS (dOr (dB (dBin gNe (dCall C_grid_index (dCons (dVar 12) dNil)) (dBin gMul (dBin gMul (dBin gMul (dVar 6) (dVar 6)) (dVar 8)) (dVar 11)))) (dOr (dB (dBin gNotB (dCall C_lies_within (dCons (dVar 12) (dCons (dVar 1) dNil))) (dC (.bool true)))) (dB (dBin gNe (dCall C_lies_within (dCons (dVar 1) (dCons (dVar 12) dNil))) (dBin gEq (dVar 6) (dC (.int 1))))))) (dRet (dC (.bool false))) dPass) th10
def th8 : DSt := dSeq (dAsg (dBin gDiv (dBin gMul (dVar 6) (dVar 7)) (dVar 14)) (dgName 15)) th9
def th7 : DSt := dSeq (dAsg (dCall C__law_common (dCons (dVar 6) (dCons (dVar 7) dNil))) (dgName 14)) th8
def th6 : DSt := dSeq (dPar 12 13 (dCons (dTup (dCons (dTup (dCons (dBin gMul (dVar 6) (dVar 8)) (dCons (dBin gMul (dVar 6) (dVar 9)) dNil))) (dCons (dTup (dCons (dC (.int 0)) (dCons (dBin gMul (dVar 6) (dVar 11)) dNil))) dNil))) (dCons (dTup (dCons (dTup (dCons (dBin gMul (dVar 7) (dVar 8)) (dCons (dBin gMul (dVar 7) (dVar 9)) dNil))) (dCons (dTup (dCons (dC (.int 0)) (dCons (dBin gMul (dVar 7) (dVar 11)) dNil))) dNil))) dNil))) th7
def th5 : DSt := dSeq (dAsg (dVar 1) (dgTup 2 (dgCons (dgTup 2 (dgCons (dgName 8) (dgCons (dgName 9) dgNil))) (dgCons (dgTup 2 (dgCons (dgName 10) (dgCons (dgName 11) dgNil))) dgNil)))) th6
def th4 : DSt := dSeq (dPar 6 7 (dCons (dBin gAdd (dC (.int 1)) (dCallL 0 C__law_roll (dCons (dC (.int 4)) dNil))) (dCons (dBin gAdd (dC (.int 1)) (dCallL 0 C__law_roll (dCons (dC (.int 4)) dNil))) dNil))) th5
def th3 : DSt := dSeq (dIfS (dB (dBin gNe (dCall C_joint_grid (dCons (dVar 5) (dCons (dCall C_shared_grid (dCons (dVar 2) (dCons (dVar 3) dNil))) dNil))) (dCall C_shared_grid (dCons (dCall C_joint_grid (dCons (dVar 5) (dCons (dVar 2) dNil))) (dCons (dVar 3) dNil))))) (dRet (dC (.bool false))) dPass) th4
def th2 : DSt := dSeq (dAsg (dCall C_shared_grid (dCons (dVar 1) (dCons (dVar 3) dNil))) (dgName 5)) th3
def th1 : DSt := dSeq (dIfS (dOr (dB (dBin gNe (dCall C_joint_grid (dCons (dCall C_joint_grid (dCons (dVar 1) (dCons (dVar 2) dNil))) (dCons (dVar 3) dNil))) (dCall C_joint_grid (dCons (dVar 1) (dCons (dCall C_joint_grid (dCons (dVar 2) (dCons (dVar 3) dNil))) dNil))))) (dB (dBin gNe (dCall C_shared_grid (dCons (dCall C_shared_grid (dCons (dVar 1) (dCons (dVar 2) dNil))) (dCons (dVar 3) dNil))) (dCall C_shared_grid (dCons (dVar 1) (dCons (dCall C_shared_grid (dCons (dVar 2) (dCons (dVar 3) dNil))) dNil)))))) (dRet (dC (.bool false))) dPass) th2
def th0 : DSt := dSeq (dAsg (dFrz (dComp (dRng1 (dCons (dC (.int 3)) dNil)) (dgName 4) dYes (dCallL 0 C__law_drawn (dCons (dC (.int 5)) dNil)) [4])) (dgLst 3 (dgCons (dgName 1) (dgCons (dgName 2) (dgCons (dgName 3) dgNil))))) th1
theorem th_all : t__law_three_right = th0 := rfl
variable {cs : Ow} {P : D → Ow → Prop}
structure Dr (a b d : Int) : Prop where
  a0 : 0 < a
  a1 : a ≤ 5
  b0 : 0 ≤ b
  b1 : b < d
  d1 : d ≤ 5
theorem Dr.d0 {a b d : Int} (h : Dr a b d) : 0 < d := by have := h.b0; have := h.b1; omega
theorem Dr.hn {a b d : Int} (h : Dr a b d) : Hn (InH a b d) a b d := hn_in h.a0 h.d0 h.b0 h.b1
theorem Dr.k {a b d : Int} (h : Dr a b d) : KG [(a, b), (0, d)] a b d := by
  have := h.a1
  have := h.d1
  exact kg_pd h.hn (by omega) (by omega)
theorem jk {a b d c e f x y z : Int} (h1 : Hn (InH a b d) a b d) (h2 : Hn (InH c e f) c e f) (h : Hn (Jn (InH a b d) (InH c e f)) x y z) (hc : c ≤ 2000) (hf : f ≤ 2000) : KG [(x, y), (0, z)] x y z := by
  obtain ⟨k1, k2, _⟩ := sub_dvd h h2 (fun x y z => jn_right h1.lat z)
  have l1 := Int.le_of_dvd h2.a0 k1
  have l2 := Int.le_of_dvd h2.d0 k2
  exact kg_pd h (by omega) (by omega)
theorem sk {a b d c e f x y z many : Int} (h1 : Dr a b d) (h2 : Dr c e f) (h : Hn (fun x y => InH a b d x y ∧ InH c e f x y) x y z) (s : Shp a b d c e f x y z many) : KG [(x, y), (0, z)] x y z := by
  have := h1.a1
  have := h1.d1
  have := h2.a1
  have := h2.d1
  obtain ⟨l1, l2⟩ := shp_le h1.a0 h1.d0 h2.a0 h2.d0 s (by omega) (.inr ⟨by omega, by omega⟩) (.inr ⟨by omega, by omega⟩)
  exact kg_pd h (by omega) (by omega)
theorem ln2 {a b d c e f : Int} : [(a, b), ((0 : Int), d)].length + [(c, e), ((0 : Int), f)].length ≤ 20 := by simp
section
variable {a b d c e f : Int} {P : D → Prop}
theorem pd_gD {a b d : Int} : (pd a b d : D) = gD [(a, b), (0, d)] := rfl
theorem q_pair (k : KG [(a, b), (0, d)] a b d) (h : P (pd a b d)) : C_grid_pair [pd a b d] P := k_pair k h
theorem q_index (k : KG [(a, b), (0, d)] a b d) (h : P (.int (a * d))) : C_grid_index [pd a b d] P := k_index k h
theorem q_joint (k : KG [(a, b), (0, d)] a b d) (k' : KG [(c, e), (0, f)] c e f) (h : ∀ x y z, Hn (Jn (InH a b d) (InH c e f)) x y z → P (pd x y z)) : C_joint_grid [pd a b d, pd c e f] P := k_joint k k' ln2 h
theorem q_joint' (k : KG [(a, b), (0, d)] a b d) (k' : KG [(c, e), (0, f)] c e f) {x y z : Int} (H : Hn (Jn (InH a b d) (InH c e f)) x y z) (h : P (pd x y z)) : C_joint_grid [pd a b d, pd c e f] P := k_joint' k k' ln2 H h
theorem q_shared (k : KG [(a, b), (0, d)] a b d) (k' : KG [(c, e), (0, f)] c e f) (h : ∀ x y z many, Hn (fun x y => InH a b d x y ∧ InH c e f x y) x y z → Shp a b d c e f x y z many → P (pd x y z)) : C_shared_grid [pd a b d, pd c e f] P := by
  rw [pd_gD, pd_gD]
  exact k_shared k k' h
theorem q_shared' (k : KG [(a, b), (0, d)] a b d) (k' : KG [(c, e), (0, f)] c e f) {x y z : Int} (H : Hn (fun x y => InH a b d x y ∧ InH c e f x y) x y z) (h : P (pd x y z)) : C_shared_grid [pd a b d, pd c e f] P := by
  rw [pd_gD, pd_gD]
  exact k_shared' k k' H h
theorem q_within (k : KG [(a, b), (0, d)] a b d) (k' : KG [(c, e), (0, f)] c e f) (h : ∀ w : Bool, (w = true ↔ ∀ x y, InH a b d x y → InH c e f x y) → P (.bool w)) : C_lies_within [pd a b d, pd c e f] P := k_within k k' h
theorem q_within' (k : KG [(a, b), (0, d)] a b d) (k' : KG [(c, e), (0, f)] c e f) (hi : ∀ x y, InH a b d x y → InH c e f x y) (h : P (.bool true)) : C_lies_within [pd a b d, pd c e f] P := k_within' k k' hi h
end
@[simp ↓] theorem q_tup {a b d : Int} : (.tuple [.tuple [.int a, .int b], .tuple [.int 0, .int d]] : D) = pd a b d := rfl
variable {a b d c e f g i k : Int} {z4 z5 z6 z7 z8 z9 z10 z11 z12 z13 z14 z15 : Sl}
theorem l_th8 (h1 : Dr a b d) {m n : Int} (m0 : 0 < m) (m1 : m ≤ 4) (n0 : 0 < n) (n1 : n ≤ 4) (h : P (.bool true) cs) : th8 { nx := fun e => lentEnd P .none e, rt := lentEnd P } [.bo cs, .im (pd a b d), .im (pd c e f), .im (pd g i k), z4, z5, .im (.int m), .im (.int n), .im (.int a), .im (.int b), z10, .im (.int d), .im (pd (m * a) (m * b) (m * d)), .im (pd (n * a) (n * b) (n * d)), .im (.int (Int.gcd m n : Nat)), z15] := by
  have a0 := h1.a0
  have a1 := h1.a1
  have b0 := h1.b0
  have b1 := h1.b1
  have d0 := h1.d0
  have d1 := h1.d1
  have F := lc_facts m0 n0
  have mm : ∀ x y : Int, -2000 ≤ x → x ≤ 2000 → -2000 ≤ y → y ≤ 2000 → CMulW x y := fun x y x1 x2 y1 y2 => mulB (k := 11) (m := 11) (bdX x1 x2) (bdX y1 y2) (by omega) (by omega)
  have hm : m = 1 ∨ m = 2 ∨ m = 3 ∨ m = 4 := by omega
  have hN : ∀ m : Int, 0 < m → m ≤ 20 → Hn (InH (m * a) (m * b) (m * d)) (m * a) (m * b) (m * d) ∧ KG [(m * a, m * b), (0, m * d)] (m * a) (m * b) (m * d) := fun m m0 m1 => by
    have e1 := Int.mul_pos m0 a0
    have e2 := Int.mul_pos m0 d0
    have e3 := Int.mul_nonneg (Int.le_of_lt m0) b0
    have e4 := Int.mul_lt_mul_of_pos_left b1 m0
    have e5 : m * a ≤ 20 * a := Int.mul_le_mul_of_nonneg_right m1 (by omega)
    have e6 : m * d ≤ 20 * d := Int.mul_le_mul_of_nonneg_right m1 (by omega)
    have hh := hn_in e1 e2 e3 e4
    exact ⟨hh, kg_pd hh (by omega) (by omega)⟩
  obtain ⟨hM, kM⟩ := hN m m0 (by omega)
  obtain ⟨hN', kN⟩ := hN n n0 (by omega)
  have gm : ((Int.gcd m n : Nat) : Int) ≤ 4 := by have := Int.le_of_dvd m0 F.gx; omega
  obtain ⟨hG, kG⟩ := hN _ F.g0 (by omega)
  have lz : lc m n ≤ 16 := by
    have l0 := F.l0
    have e : lc m n * 1 ≤ lc m n * (Int.gcd m n : Nat) := Int.mul_le_mul_of_nonneg_left (by have := F.g0; omega) (by omega)
    rw [F.lg] at e
    have : m * n ≤ 4 * n := Int.mul_le_mul_of_nonneg_right m1 (by omega)
    omega
  obtain ⟨hL, kL⟩ := hN _ F.l0 (by omega)
  have hlat := lat_inH a b d
  have HJ : Hn (Jn (InH (m * a) (m * b) (m * d)) (InH (n * a) (n * b) (n * d))) _ _ _ := hG.congr (fun x y => inH_ml.trans ((jn_ml hlat m0 n0 x y).symm.trans (jn_congr (fun x y => inH_ml.symm) (fun x y => inH_ml.symm) x y)))
  have HC : Hn (fun x y => InH (m * a) (m * b) (m * d) x y ∧ InH (n * a) (n * b) (n * d) x y) _ _ _ := hL.congr (fun x y => inH_ml.trans ((cap_ml hlat m0 n0 x y).symm.trans (and_congr inH_ml.symm inH_ml.symm)))
  have el : m * n / ((Int.gcd m n : Nat) : Int) = lc m n := by
    rw [← F.lg]
    exact Int.mul_ediv_cancel _ (by have := F.g0; omega)
  have g0 := F.g0
  have l0 := F.l0
  generalize ((Int.gcd m n : Nat) : Int) = gg at *
  generalize lc m n = ll at *
  unfold th8 th9
  have hn : th10 { nx := fun e => lentEnd P .none e, rt := lentEnd P } [.bo cs, .im (pd a b d), .im (pd c e f), .im (pd g i k), z4, z5, .im (.int m), .im (.int n), .im (.int a), .im (.int b), z10, .im (.int d), .im (pd (m * a) (m * b) (m * d)), .im (pd (n * a) (n * b) (n * d)), .im (.int gg), .im (.int ll)] := by
    unfold th10
    simp
    refine q_joint' kM kN HJ ?_
    refine ⟨mm _ _ (by omega) (by omega) (by omega) (by omega), mm _ _ (by omega) (by omega) (by omega) (by omega), mm _ _ (by omega) (by omega) (by omega) (by omega), q_pair kG ?_⟩
    rw [gEq_pd]
    simp
    refine q_shared' kM kN HC ?_
    refine ⟨mm _ _ (by omega) (by omega) (by omega) (by omega), mm _ _ (by omega) (by omega) (by omega) (by omega), mm _ _ (by omega) (by omega) (by omega) (by omega), q_pair kL ?_⟩
    rw [gEq_pd]
    simp
    exact h
  revert hn
  generalize th10 = t
  intro hn
  simp
  have q0 := mul81 m0 m0 (by omega) (by omega)
  have q1 := mul81 m0 n0 (by omega) (by omega)
  refine ⟨q1.1, divB g0 (bdI (by omega)) (by omega), q_index kM ⟨q0.1, mulB q0.2.1 (bdI (x := a) (by omega)) (by omega) (by omega), mulB (q0.2.1.mul (bdI (x := a) (by omega))) (bdI (x := d) (by omega)) (by omega) (by omega), ?_⟩⟩
  have e1 : m * a * (m * d) = m * m * a * d := by grind
  rw [e1]
  simp
  have hi : ∀ x y, InH (m * a) (m * b) (m * d) x y → InH a b d x y := fun x y z => by
    obtain ⟨u, v, hu, rfl, rfl⟩ := inH_ml.mp z
    exact hlat.mul m hu
  refine q_within' kM h1.k hi ?_
  simp
  refine q_within h1.k kM (fun w hw => ?_)
  have ew : w = decide (m = 1) := by
    have : (∀ x y, InH a b d x y → InH (m * a) (m * b) (m * d) x y) ↔ m = 1 := by
      constructor
      · intro z
        obtain ⟨j, hj⟩ := (z _ _ (inH_2 a b d)).zero hM.a0
        have : 1 * d = j * m * d := by rw [Int.one_mul, Int.mul_assoc]; exact hj
        have := Int.eq_of_mul_eq_mul_right (show d ≠ 0 by omega) this
        have := Int.le_of_dvd (by omega) (show m ∣ 1 from ⟨j, by rw [this]; exact Int.mul_comm _ _⟩)
        omega
      · rintro rfl x y z
        rw [Int.one_mul, Int.one_mul, Int.one_mul]
        exact z
    rw [this] at hw
    cases w
    · have : ¬ m = 1 := fun z => absurd (hw.mpr z) (by simp)
      rw [decide_eq_false this]
    · rw [decide_eq_true (hw.mp rfl)]
  rw [ew]
  simp
  rw [el]
  exact hn
end Nk66

namespace Nk66
open PySem PySem.Spec PyProof.Rows L2 DL
variable [Clss]
variable {cs : Ow} {P : D → Ow → Prop}
variable {a b d c e f g i k : Int} {z4 z5 z6 z7 z8 z9 z10 z11 z12 z13 z14 z15 : Sl}
theorem l_th4 (hd : Dice cs) (h1 : Dr a b d) (h : ∀ cs, Dice cs → P (.bool true) cs) : th4 { nx := fun e => lentEnd P .none e, rt := lentEnd P } [.bo cs, .im (pd a b d), .im (pd c e f), .im (pd g i k), z4, z5, z6, z7, z8, z9, z10, z11, z12, z13, z14, z15] := by
  have hn := fun cs (hd : Dice cs) z4 z5 z10 z15 m n m0 m1 n0 n1 => l_th8 (cs := cs) (a := a) (b := b) (d := d) (c := c) (e := e) (f := f) (g := g) (i := i) (k := k) (P := P) (z4 := z4) (z5 := z5) (z10 := z10) (z15 := z15) h1 (m := m) (n := n) m0 m1 n0 n1 (h cs hd)
  have a0 := h1.a0
  have a1 := h1.a1
  have b0 := h1.b0
  have b1 := h1.b1
  have d1 := h1.d1
  have mm : ∀ x y : Int, -2000 ≤ x → x ≤ 2000 → -2000 ≤ y → y ≤ 2000 → CMulW x y := fun x y x1 x2 y1 y2 => mulB (k := 11) (m := 11) (bdX x1 x2) (bdX y1 y2) (by omega) (by omega)
  unfold th4 th5 th6 th7
  revert hn
  generalize th8 = t
  intro hn
  simp
  refine sp_roll hd (by omega) (by omega) (fun r cs1 r0 r1 hd1 => ?_)
  simp
  refine sp_roll hd1 (by omega) (by omega) (fun s cs2 s0 s1 hd2 => ?_)
  unfold pd
  simp
  refine ⟨mm _ _ (by omega) (by omega) (by omega) (by omega), mm _ _ (by omega) (by omega) (by omega) (by omega), mm _ _ (by omega) (by omega) (by omega) (by omega), mm _ _ (by omega) (by omega) (by omega) (by omega), mm _ _ (by omega) (by omega) (by omega) (by omega), mm _ _ (by omega) (by omega) (by omega) (by omega), sp_law_common ?_⟩
  exact hn cs2 hd2 _ _ _ _ (1 + r) (1 + s) (by omega) (by omega) (by omega) (by omega)
theorem l_th1 (hd : Dice cs) (h1 : Dr a b d) (h2 : Dr c e f) (h3 : Dr g i k) (h : ∀ cs, Dice cs → P (.bool true) cs) : th1 { nx := fun e => lentEnd P .none e, rt := lentEnd P } [.bo cs, .im (pd a b d), .im (pd c e f), .im (pd g i k), z4, z5, z6, z7, z8, z9, z10, z11, z12, z13, z14, z15] := by
  have hn := fun z5 => l_th4 (cs := cs) (a := a) (b := b) (d := d) (c := c) (e := e) (f := f) (g := g) (i := i) (k := k) (P := P) (z4 := z4) (z5 := z5) (z6 := z6) (z7 := z7) (z8 := z8) (z9 := z9) (z10 := z10) (z11 := z11) (z12 := z12) (z13 := z13) (z14 := z14) (z15 := z15) hd h1 h
  have u1 := h2.a1
  have u2 := h2.d1
  have u3 := h3.a1
  have u4 := h3.d1
  have n1 := h1.hn
  have n2 := h2.hn
  have n3 := h3.hn
  unfold th1 th2 th3
  revert hn
  generalize th4 = t
  intro hn
  simp
  refine q_joint h1.k h2.k (fun x1 y1 w1 J12 => ?_)
  have k12 := jk n1 n2 J12 (by omega) (by omega)
  refine q_joint k12 h3.k (fun x2 y2 w2 JA => ?_)
  refine q_joint h2.k h3.k (fun x3 y3 w3 J23 => ?_)
  have k23 := jk n2 n3 J23 (by omega) (by omega)
  have JA' : Hn (Jn (InH a b d) (InH x3 y3 w3)) x2 y2 w2 := JA.congr (fun x y => ((jn_congr (fun x y => (J12.eq x y).symm) (fun x y => Iff.rfl) x y).trans (jn_assoc x y)).trans (jn_congr (fun x y => Iff.rfl) (fun x y => J23.eq x y) x y))
  refine q_joint' h1.k k23 JA' ?_
  rw [gNe_pd]
  simp
  refine q_shared h1.k h2.k (fun x1 y1 w1 m1 C12 s12 => ?_)
  have k12 := sk h1 h2 C12 s12
  refine q_shared k12 h3.k (fun x2 y2 w2 _ CA _ => ?_)
  refine q_shared h2.k h3.k (fun x3 y3 w3 m3 C23 s23 => ?_)
  have k23 := sk h2 h3 C23 s23
  have CA' : Hn (fun x y => InH a b d x y ∧ InH x3 y3 w3 x y) x2 y2 w2 := CA.congr (fun x y => ((and_congr (C12.eq x y).symm Iff.rfl).trans and_assoc).trans (and_congr Iff.rfl (C23.eq x y)))
  refine q_shared' h1.k k23 CA' ?_
  rw [gNe_pd]
  simp
  refine q_shared h1.k h3.k (fun x4 y4 w4 m4 C13 s13 => ?_)
  have k13 := sk h1 h3 C13 s13
  refine q_shared h2.k h3.k (fun x5 y5 w5 m5 D23 t23 => ?_)
  have l23 := sk h2 h3 D23 t23
  refine q_joint k13 l23 (fun x6 y6 w6 JB => ?_)
  refine q_joint k13 h2.k (fun x7 y7 w7 J132 => ?_)
  have k132 := jk k13.hn.norm n2 J132 (by omega) (by omega)
  have JB' : Hn (fun x y => InH x7 y7 w7 x y ∧ InH g i k x y) x6 y6 w6 := JB.congr (fun x y => ((jn_congr (fun x y => Iff.rfl) (fun x y => (D23.eq x y).symm) x y).trans (jn_mod n3.lat (fun x y z => ((C13.eq x y).mpr z).2) x y)).trans (and_congr (J132.eq x y) Iff.rfl))
  refine q_shared' k132 h3.k JB' ?_
  rw [gNe_pd]
  simp
  exact hn _
def TV (i : Nat) (acc : List D) (e : DL.Env) : Prop := ∃ (cs : Ow) (L : List (Int × Int × Int)), e = [.bo cs, .un, .un, .un, .un, .un, .un, .un, .un, .un, .un, .un, .un, .un, .un, .un] ∧ Dice cs ∧ acc = L.map (fun t => pd t.1 t.2.1 t.2.2) ∧ L.length = i ∧ ∀ t ∈ L, Dr t.1 t.2.1 t.2.2
theorem sp_three {cs : Ow} {P : D → Ow → Prop} (hd : Dice cs) (h : ∀ cs, Dice cs → P (.bool true) cs) : C__law_three_right cs [] P := by
  refine u__law_three_right ?_
  rw [th_all]
  have hn := fun cs hd a b d c e f g i k h1 h2 h3 => l_th1 (cs := cs) (a := a) (b := b) (d := d) (c := c) (e := e) (f := f) (g := g) (i := i) (k := k) (P := P) (z4 := .un) (z5 := .un) (z6 := .un) (z7 := .un) (z8 := .un) (z9 := .un) (z10 := .un) (z11 := .un) (z12 := .un) (z13 := .un) (z14 := .un) (z15 := .un) hd h1 h2 h3 h
  unfold th0
  revert hn
  generalize th1 = t
  intro hn
  simp
  refine comp_rng1 (j := 3) (e1 := [.bo cs, .un, .un, .un, .un, .un, .un, .un, .un, .un, .un, .un, .un, .un, .un, .un]) (fun S z => by simpa using z) (by omega) (by omega)
    TV ⟨cs, [], rfl, hd, rfl, rfl, by simp⟩ ?_ ?_
  · rintro i acc e2 hi ⟨cs1, L, rfl, hd1, rfl, hl, hL⟩
    simp
    refine sp_drawn hd1 (by omega) (by omega) (fun a b d cs2 a1 a2 b1 b2 d1 hd2 => ?_)
    refine ⟨sz (by omega), cs2, L ++ [(a, b, d)], rfl, hd2, by simp, by simp [hl], fun t ht => ?_⟩
    rcases List.mem_append.mp ht with z | z
    · exact hL t z
    · rw [List.mem_singleton] at z
      subst z
      exact ⟨by show 0 < a; omega, a2, b1, b2, d1⟩
  · rintro acc e2 ⟨cs1, L, rfl, hd1, rfl, hl, hL⟩
    match L, hl, hL with
    | [(a, b, d), (c, e, f), (g, i, k)], _, hL =>
      have h1 := hL (a, b, d) (by simp)
      have h2 := hL (c, e, f) (by simp)
      have h3 := hL (g, i, k) (by simp)
      simp
      exact hn cs1 hd1 a b d c e f g i k h1 h2 h3
end Nk66

namespace Nk66
open PySem PySem.Spec PyProof.Rows L2 DL
variable [Clss]
def slantS : List (Int × Int) := [(2, 1), (0, 3), (4, 5)]
def evenS : List (Int × Int) := [(2, 0), (0, 2)]
theorem k_slant : KG slantS 2 1 3 := by
  refine ⟨⟨by decide, by decide, by decide, ⟨(2, 1), by decide, (0, 3), by decide, by decide⟩⟩, by omega, by omega, by omega, by omega, fun x y => ?_⟩
  constructor
  · refine span_le (lat_inH 2 1 3) (fun p hp => ?_)
    simp [slantS] at hp
    rcases hp with rfl | rfl | rfl
    · exact ⟨1, 0, rfl, rfl⟩
    · exact ⟨0, 1, rfl, rfl⟩
    · exact ⟨2, 1, rfl, rfl⟩
  · rintro ⟨i, j, rfl, rfl⟩
    have := (lat_span slantS).add ((lat_span slantS).mul i (span_mem (S := slantS) (p := (2, 1)) (by decide))) ((lat_span slantS).mul j (span_mem (S := slantS) (p := (0, 3)) (by decide)))
    have e1 : i * ((2 : Int), (1 : Int)).1 + j * ((0 : Int), (3 : Int)).1 = i * 2 := by show i * 2 + j * 0 = _; omega
    rw [e1] at this
    exact this
theorem k_even : KG evenS 2 0 2 := kg_pd (hn_in (a := 2) (b := 0) (d := 2) (by omega) (by omega) (by omega) (by omega)) (by omega) (by omega)
theorem k_in : KG [(4, 2), (0, 6)] 4 2 6 := kg_pd (hn_in (a := 4) (b := 2) (d := 6) (by omega) (by omega) (by omega) (by omega)) (by omega) (by omega)
theorem j_fin : Hn (Jn (InH 2 1 3) (InH 2 0 2)) 2 0 1 := ⟨by omega, by omega, by omega, by omega, fun x y => by
  constructor
  · rintro ⟨u, v, ⟨i, j, e1, e2⟩, ⟨k, l, e3, e4⟩⟩
    exact ⟨i + k, i + 3 * j + 2 * l, by omega, by omega⟩
  · rintro ⟨i, j, e1, e2⟩
    exact ⟨2 * 0, 1 * 0 + 3 * j, ⟨0, j, by omega, by omega⟩, ⟨i, -j, by omega, by omega⟩⟩⟩
theorem c_fin : Hn (fun x y => InH 2 1 3 x y ∧ InH 2 0 2 x y) 2 4 6 := ⟨by omega, by omega, by omega, by omega, fun x y => by
  constructor
  · rintro ⟨⟨i, j, e1, e2⟩, ⟨k, l, e3, e4⟩⟩
    exact ⟨i, (y - 4 * i) / 6, by omega, by omega⟩
  · rintro ⟨i, j, e1, e2⟩
    exact ⟨⟨i, i + 2 * j, by omega, by omega⟩, ⟨i, 2 * i + 3 * j, by omega, by omega⟩⟩⟩
theorem w_fin (x y : Int) : InH 4 2 6 x y → InH 2 1 3 x y := by
  rintro ⟨i, j, e1, e2⟩
  exact ⟨2 * i, 2 * j, by omega, by omega⟩
def HI (v : D) (_ : Nat) (e : DL.Env) : Prop := ∃ z1 z2 z3, e = [.im v, z1, z2, z3, .un, .un]
theorem law_true : ∀ ns : List Int, ns.length ≤ 63 → C_law [scriptOf ns] (· = .bool true) := by
  intro ns hns
  refine u_law ?_
  unfold t_law
  rw [s_seq]
  have hj : ∃ j : Int, 1 ≤ j ∧ j ≤ 2 ∧ (if 1 < (if (ns.length : Int) < 2 then (ns.length : Int) else 2) then (if (ns.length : Int) < 2 then (ns.length : Int) else 2) else 1) = j := ⟨_, by split <;> split <;> omega, by split <;> split <;> omega, rfl⟩
  obtain ⟨j, j1, j2, ej⟩ := hj
  refine for_rng1 (j := j) (e1 := [.im (scriptOf ns), .un, .un, .un, .un, .un]) (fun S z => ?_) (by omega) (by omega) (HI (scriptOf ns)) ⟨_, _, _, rfl⟩ ?_ ?_
  · rw [← ej] at z
    unfold scriptOf at z ⊢
    simp
    exact z
  · rintro i e2 hi ⟨z1, z2, z3, rfl⟩
    simp
    refine sp_dice (by omega) (fun cs hd => ?_)
    refine for_rng1 (j := 3) (e1 := [.im (scriptOf ns), .im (.int i), .mu cs, z3, .un, .un]) (fun Q z => ?_) (by omega) (by omega) (fun k e => ∃ cs z3, Dice cs ∧ e = [.im (scriptOf ns), .im (.int i), .mu cs, z3, .un, .un]) ⟨_, _, hd, rfl⟩ ?_ ?_
    · simp
      exact z
    · rintro k e3 hk ⟨cs, z3, hd, rfl⟩
      simp
      refine sp_both hd (fun cs1 hd1 => ?_)
      simp
      refine sp_three hd1 (fun cs2 hd2 => ?_)
      simp
      exact hd2
    · rintro e3 ⟨cs, z3, hd, rfl⟩
      exact ⟨_, _, _, rfl⟩
  · rintro e2 ⟨z1, z2, z3, rfl⟩
    simp
    have es : (.tuple [.tuple [.int 2, .int 1], .tuple [.int 0, .int 3], .tuple [.int 4, .int 5]] : D) = gD slantS := rfl
    have ee : (pd 2 0 2 : D) = gD evenS := rfl
    have ei : (pd 4 2 6 : D) = gD [(4, 2), (0, 6)] := rfl
    rw [es, ee, ei]
    refine k_joint' k_slant k_even (by decide) j_fin ?_
    rw [gEq_pd]
    simp
    refine k_shared' k_slant k_even c_fin ?_
    rw [gEq_pd]
    simp
    refine k_within' k_in k_slant w_fin ?_
    simp
end Nk66

namespace Nk66
open PySem PySem.Spec PyProof.Rows L2 DL
def top (i : Nat) : Stmt := PySem.Challenge.pw_gridhulls_k66_whole_joint_and_shared_gri.main.body.getD i (.Pass ⟨0, 0, 0, 0⟩)
def meth : Stmt → Nat → Stmt
  | .ClassDef _ _ _ body .., j => body.getD j (.Pass ⟨0, 0, 0, 0⟩)
  | s, _ => s
variable [Clss]
structure Gl (K : PySem.W.Frag) (mg : Str → Option Value) : Prop where
  c_MOST_PLACE : GC K mg "MOST_PLACE" (.int 1000)
  c_MOST_STEP : GC K mg "MOST_STEP" (.int 2000)
  c_MOST_STEPS : GC K mg "MOST_STEPS" (.int 20)
  c_PAIR_SIZE : GC K mg "PAIR_SIZE" (.int 2)
  n_abs : mg "abs" = none
  n_all : mg "all" = none
  n_any : mg "any" = none
  n_bool : mg "bool" = none
  k_Pair : ClsOk K (Clss.adr "Pair") ["own_by_long", "own_by_tall", "own_long", "own_tall"]
  nm_Pair : mg "Pair" = some (.ref (Clss.adr "Pair"))
  mk_Pair : PySem.W.makesIn K (Clss.adr "Pair") = true
  kp_Pair : PySem.W.keepIn K (.ref (Clss.adr "Pair")) = true
  n_enumerate : mg "enumerate" = none
  n_int : mg "int" = none
  n_isinstance : mg "isinstance" = none
  n_len : mg "len" = none
  n_list : mg "list" = none
  n_max : mg "max" = none
  n_min : mg "min" = none
  n_range : mg "range" = none
  n_tuple : mg "tuple" = none
  n_zip : mg "zip" = none
section
variable {P : Program} {w : World} {K : PySem.W.Frag} {mg : Str → Option Value} {base : Heap}
abbrev s_is_whole : Stmt := top 6
theorem sc_is_whole : FnScope N_is_whole ["value"] (defScope s_is_whole) := ⟨rfl, rfl, rfl, by decide +kernel, rfl, by decide +kernel, by decide +kernel⟩
theorem cal_is_whole (A : DefAt K mg "is_whole" s_is_whole ["value"]) (g : Gl K mg)  : Cal P w K mg base 1 "is_whole" (spD K C_is_whole) := by
  refine cal_d A sc_is_whole t_is_whole (by rfl) (fun f cdv A outer s H E hr => ?_)
  have nd := sc_is_whole.nd
  exact (dss_one (ds_ret (de_and (de_isi (de_var 0 (pv 0)) (pe_bltn (by rfl) g.n_int (by decide +kernel) rfl) (fun ta h => pe_callB call_isi (by rfl) g.n_isinstance (by decide +kernel) h)) (de_one (de_not (de_isi (de_var 0 (pv 0)) (pe_bltn (by rfl) g.n_bool (by decide +kernel) rfl) (fun ta h => pe_callB call_isi (by rfl) g.n_isinstance (by decide +kernel) h)))))))

abbrev s_is_within : Stmt := top 7
theorem sc_is_within : FnScope N_is_within ["value", "least", "most"] (defScope s_is_within) := ⟨rfl, rfl, rfl, by decide +kernel, rfl, by decide +kernel, by decide +kernel⟩
theorem cal_is_within (A : DefAt K mg "is_within" s_is_within ["value", "least", "most"]) (g : Gl K mg) (h_is_whole : Cal P w K mg base 1 "is_whole" (spD K C_is_whole)) : Cal P w K mg base 2 "is_within" (spD K C_is_within) := by
  refine cal_d A sc_is_within t_is_within (by rfl) (fun f cdv A outer s H E hr => ?_)
  have nd := sc_is_within.nd
  exact (dss_one (ds_ret (de_and (calD h_is_whole (hr.mono (by decide)) cld_mono (da_cons (de_var 0 (pv 0)) da_nil)) (de_one (de_chain op_le op_le os_B0 os_B0.op (de_var 1 (pv 1)) (de_var 0 (pv 0)) (de_var 2 (pv 2)))))))

abbrev s_is_pair : Stmt := top 8
theorem sc_is_pair : FnScope N_is_pair ["value"] (defScope s_is_pair) := ⟨rfl, rfl, rfl, by decide +kernel, rfl, by decide +kernel, by decide +kernel⟩
theorem cal_is_pair (A : DefAt K mg "is_pair" s_is_pair ["value"]) (g : Gl K mg)  : Cal P w K mg base 1 "is_pair" (spD K C_is_pair) := by
  refine cal_d A sc_is_pair t_is_pair (by rfl) (fun f cdv A outer s H E hr => ?_)
  have nd := sc_is_pair.nd
  exact (dss_one (ds_ret (de_and (de_isi (de_var 0 (pv 0)) (pe_bltn (by rfl) g.n_tuple (by decide +kernel) rfl) (fun ta h => pe_callB call_isi (by rfl) g.n_isinstance (by decide +kernel) h)) (de_one (de_cmp (op_eqD hr.units) os_eq.op (calBi call_len_seq oa_len g.n_len (da_cons (de_var 0 (pv 0)) da_nil)) (gv g.c_PAIR_SIZE) (nomark _))))))

abbrev s_common_divisor : Stmt := top 9
theorem sc_common_divisor : FnScope N_common_divisor ["one", "other"] (defScope s_common_divisor) := ⟨rfl, rfl, rfl, by decide +kernel, rfl, by decide +kernel, by decide +kernel⟩
theorem cal_common_divisor (A : DefAt K mg "common_divisor" s_common_divisor ["one", "other"]) (g : Gl K mg)  : Cal P w K mg base 1 "common_divisor" (spD K C_common_divisor) := by
  refine cal_d A sc_common_divisor t_common_divisor (by rfl) (fun f cdv A outer s H E hr => ?_)
  have nd := sc_common_divisor.nd
  exact (dss_cons (ds_par (da_cons (calBi call_abs oa_abs g.n_abs (da_cons (de_var 0 (pv 0)) da_nil)) (da_cons (calBi call_abs oa_abs g.n_abs (da_cons (de_var 1 (pv 1)) da_nil)) da_nil)) (fun ta h => ps_par (i := 2) (j := 3) rfl nd rfl rfl (by decide) rfl rfl h (by rfl)))
  (dss_cons (ds_while PassesOwn.never (dt_tru (de_var 3 (pv 3))) (dss_one (ds_par (da_cons (de_var 3 (pv 3)) (da_cons (de_bin op_mod os_I.op (de_var 2 (pv 2)) (de_var 3 (pv 3))) da_nil)) (fun ta h => ps_par (i := 2) (j := 3) rfl nd rfl rfl (by decide) rfl rfl h (by rfl)))))
  (dss_one (ds_ret (de_var 2 (pv 2))))))

abbrev s_is_point_in : Stmt := top 13
theorem sc_is_point_in : FnScope N_is_point_in ["value"] (defScope s_is_point_in) := ⟨rfl, rfl, rfl, by decide +kernel, rfl, by decide +kernel, by decide +kernel⟩
theorem cal_is_point_in (A : DefAt K mg "is_point_in" s_is_point_in ["value"]) (g : Gl K mg) (h_is_pair : Cal P w K mg base 1 "is_pair" (spD K C_is_pair)) (h_is_within : Cal P w K mg base 2 "is_within" (spD K C_is_within)) : Cal P w K mg base 3 "is_point_in" (spD K C_is_point_in) := by
  refine cal_d A sc_is_point_in t_is_point_in (by rfl) (fun f cdv A outer s H E hr => ?_)
  have nd := sc_is_point_in.nd
  exact (dss_one (ds_ret (de_and (calD h_is_pair (hr.mono (by decide)) cld_mono (da_cons (de_var 0 (pv 0)) da_nil)) (de_one (calBi (cr_all rfl) oa_all g.n_all (da_cons (de_frz (df_comp (own := [("number", 1)]) rfl nd (di_tup (de_var 0 (pv 0))) (blkOk_by (N := N_is_point_in) (sc := defScope s_is_point_in) (by decide +kernel)) (fun _ _ _ _ _ => (pg_name (i := 1) nd rfl (Or.inl rfl))) (tg_name (by decide)) (fun _ _ _ _ _ => dts_nil) (fun _ _ _ _ _ => (calD h_is_within (hr.mono (by decide)) cld_mono (da_cons (de_var 1 (pv 1)) (da_cons (de_neg (gv g.c_MOST_PLACE)) (da_cons (gv g.c_MOST_PLACE) da_nil))))))) da_nil))))))

abbrev s_is_step_in : Stmt := top 14
theorem sc_is_step_in : FnScope N_is_step_in ["value"] (defScope s_is_step_in) := ⟨rfl, rfl, rfl, by decide +kernel, rfl, by decide +kernel, by decide +kernel⟩
theorem cal_is_step_in (A : DefAt K mg "is_step_in" s_is_step_in ["value"]) (g : Gl K mg) (h_is_pair : Cal P w K mg base 1 "is_pair" (spD K C_is_pair)) (h_is_within : Cal P w K mg base 2 "is_within" (spD K C_is_within)) : Cal P w K mg base 3 "is_step_in" (spD K C_is_step_in) := by
  refine cal_d A sc_is_step_in t_is_step_in (by rfl) (fun f cdv A outer s H E hr => ?_)
  have nd := sc_is_step_in.nd
  exact (dss_one (ds_ret (de_and (calD h_is_pair (hr.mono (by decide)) cld_mono (da_cons (de_var 0 (pv 0)) da_nil)) (de_one (calBi (cr_all rfl) oa_all g.n_all (da_cons (de_frz (df_comp (own := [("number", 1)]) rfl nd (di_tup (de_var 0 (pv 0))) (blkOk_by (N := N_is_step_in) (sc := defScope s_is_step_in) (by decide +kernel)) (fun _ _ _ _ _ => (pg_name (i := 1) nd rfl (Or.inl rfl))) (tg_name (by decide)) (fun _ _ _ _ _ => dts_nil) (fun _ _ _ _ _ => (calD h_is_within (hr.mono (by decide)) cld_mono (da_cons (de_var 1 (pv 1)) (da_cons (de_neg (gv g.c_MOST_STEP)) (da_cons (gv g.c_MOST_STEP) da_nil))))))) da_nil))))))

abbrev s_cross_in : Stmt := top 15
theorem sc_cross_in : FnScope N_cross_in ["one", "other"] (defScope s_cross_in) := ⟨rfl, rfl, rfl, by decide +kernel, rfl, by decide +kernel, by decide +kernel⟩
theorem cal_cross_in (A : DefAt K mg "cross_in" s_cross_in ["one", "other"]) (g : Gl K mg)  : Cal P w K mg base 1 "cross_in" (spD K C_cross_in) := by
  refine cal_d A sc_cross_in t_cross_in (by rfl) (fun f cdv A outer s H E hr => ?_)
  have nd := sc_cross_in.nd
  exact (dss_one (ds_ret (de_bin op_sub os_I0.op (de_bin op_mulW os_I.op (de_ix (de_var 0 (pv 0)) de_int (fun _ _ => rfl)) (de_ix (de_var 1 (pv 1)) de_int (fun _ _ => rfl))) (de_bin op_mulW os_I.op (de_ix (de_var 0 (pv 0)) de_int (fun _ _ => rfl)) (de_ix (de_var 1 (pv 1)) de_int (fun _ _ => rfl))))))

abbrev s_makers_in : Stmt := top 16
theorem sc_makers_in : FnScope N_makers_in ["one", "other"] (defScope s_makers_in) := ⟨rfl, rfl, rfl, by decide +kernel, rfl, by decide +kernel, by decide +kernel⟩
theorem cal_makers_in (A : DefAt K mg "makers_in" s_makers_in ["one", "other"]) (g : Gl K mg)  : Cal P w K mg base 1 "makers_in" (spD K C_makers_in) := by
  refine cal_d A sc_makers_in t_makers_in (by rfl) (fun f cdv A outer s H E hr => ?_)
  have nd := sc_makers_in.nd
  exact (dss_cons (ds_asg (de_tup (da_cons (de_tup (da_cons de_int (da_cons de_int da_nil))) (da_cons (de_tup (da_cons de_int (da_cons de_int da_nil))) da_nil))) (dg_tup rfl (dgs_cons (dg_name (pg_name (i := 2) nd rfl (Or.inl rfl))) (dgs_cons (dg_name (pg_name (i := 3) nd rfl (Or.inl rfl))) dgs_nil))))
  (dss_cons (ds_par (da_cons (de_var 0 (pv 0)) (da_cons (de_var 1 (pv 1)) da_nil)) (fun ta h => ps_par (i := 4) (j := 5) rfl nd rfl rfl (by decide) rfl rfl h (by rfl)))
  (dss_cons (ds_while PassesOwn.never (dt_tru (de_var 5 (pv 5))) (dss_cons (ds_set (i := 6) nd rfl (Or.inl rfl) (de_bin op_fdivW os_I.op (de_var 4 (pv 4)) (de_var 5 (pv 5))))
  (dss_cons (ds_par (da_cons (de_var 5 (pv 5)) (da_cons (de_bin op_sub os_I0.op (de_var 4 (pv 4)) (de_bin op_mulW os_I.op (de_var 6 (pv 6)) (de_var 5 (pv 5)))) da_nil)) (fun ta h => ps_par (i := 4) (j := 5) rfl nd rfl rfl (by decide) rfl rfl h (by rfl)))
  (dss_one (ds_par (da_cons (de_var 3 (pv 3)) (da_cons (de_tup (da_cons (de_bin op_sub os_I0.op (de_ix (de_var 2 (pv 2)) de_int (fun _ _ => rfl)) (de_bin op_mulW os_I.op (de_var 6 (pv 6)) (de_ix (de_var 3 (pv 3)) de_int (fun _ _ => rfl)))) (da_cons (de_bin op_sub os_I0.op (de_ix (de_var 2 (pv 2)) de_int (fun _ _ => rfl)) (de_bin op_mulW os_I.op (de_var 6 (pv 6)) (de_ix (de_var 3 (pv 3)) de_int (fun _ _ => rfl)))) da_nil))) da_nil)) (fun ta h => ps_par (i := 2) (j := 3) rfl nd rfl rfl (by decide) rfl rfl h (by rfl)))))))
  (dss_one (ds_ret (de_if (dt_cmp op_gt os_B0.op (de_var 4 (pv 4)) de_int (nomark _)) (de_var 2 (pv 2)) (de_tup (da_cons (de_neg (de_ix (de_var 2 (pv 2)) de_int (fun _ _ => rfl))) (da_cons (de_neg (de_ix (de_var 2 (pv 2)) de_int (fun _ _ => rfl))) da_nil)))))))))

abbrev s_require_point : Stmt := top 17
theorem sc_require_point : FnScope N_require_point ["value"] (defScope s_require_point) := ⟨rfl, rfl, rfl, by decide +kernel, rfl, by decide +kernel, by decide +kernel⟩
theorem cal_require_point (A : DefAt K mg "require_point" s_require_point ["value"]) (g : Gl K mg) (h_is_point_in : Cal P w K mg base 3 "is_point_in" (spD K C_is_point_in)) : Cal P w K mg base 4 "require_point" (spD K C_require_point) := by
  refine cal_d A sc_require_point t_require_point (by rfl) (fun f cdv A outer s H E hr => ?_)
  have nd := sc_require_point.nd
  exact (dss_one (ds_if (dt_not (dt_val (calD h_is_point_in (hr.mono (by decide)) cld_mono (da_cons (de_var 0 (pv 0)) da_nil)))) (dss_one ds_never) dss_nil))

abbrev s_is_grid_in : Stmt := top 20
theorem sc_is_grid_in : FnScope N_is_grid_in ["value"] (defScope s_is_grid_in) := ⟨rfl, rfl, rfl, by decide +kernel, rfl, by decide +kernel, by decide +kernel⟩
theorem cal_is_grid_in (A : DefAt K mg "is_grid_in" s_is_grid_in ["value"]) (g : Gl K mg) (h_is_step_in : Cal P w K mg base 3 "is_step_in" (spD K C_is_step_in)) (h_cross_in : Cal P w K mg base 1 "cross_in" (spD K C_cross_in)) : Cal P w K mg base 4 "is_grid_in" (spD K C_is_grid_in) := by
  refine cal_d A sc_is_grid_in t_is_grid_in (by rfl) (fun f cdv A outer s H E hr => ?_)
  have nd := sc_is_grid_in.nd
  exact (dss_cons (ds_if (DW.te (dw_or (dt_not (dt_val (de_isi (de_var 0 (pv 0)) (pe_bltn (by rfl) g.n_tuple (by decide +kernel) rfl) (fun ta h => pe_callB call_isi (by rfl) g.n_isinstance (by decide +kernel) h)))) (dw_or1 (dt_not (dt_chain op_lt op_le os_B0 os_B0.op de_int (calBi call_len_seq oa_len g.n_len (da_cons (de_var 0 (pv 0)) da_nil)) (gv g.c_MOST_STEPS)))))) (dss_one (ds_ret de_bl)) dss_nil)
  (dss_cons (ds_if (dt_not (dt_val (calBi (cr_all rfl) oa_all g.n_all (da_cons (de_frz (df_comp (own := [("step", 1)]) rfl nd (di_tup (de_var 0 (pv 0))) (blkOk_by (N := N_is_grid_in) (sc := defScope s_is_grid_in) (by decide +kernel)) (fun _ _ _ _ _ => (pg_name (i := 1) nd rfl (Or.inl rfl))) (tg_name (by decide)) (fun _ _ _ _ _ => dts_nil) (fun _ _ _ _ _ => (calD h_is_step_in (hr.mono (by decide)) cld_mono (da_cons (de_var 1 (pv 1)) da_nil))))) da_nil)))) (dss_one (ds_ret de_bl)) dss_nil)
  (dss_one (ds_ret (calBi (cr_any rfl) oa_any g.n_any (da_cons (de_frz (df_comp2 (own := [("one", 2), ("other", 3)]) (vs1 := [3]) rfl nd (di_tup (de_var 0 (pv 0))) (blkOk_by (N := N_is_grid_in) (sc := defScope s_is_grid_in) (by decide +kernel)) (by decide) (fun _ _ _ _ _ => (pg_name (i := 2) nd rfl (Or.inl rfl))) (tg_name (by decide)) (fun _ _ _ _ _ => dts_nil) (fun _ _ _ _ _ => (di_tup (de_var 0 (pv 0)))) (fun _ _ _ _ _ => (pg_name (i := 3) nd rfl (Or.inl rfl))) (tg_name (by decide)) (fun _ _ _ _ _ => dts_nil) (fun _ _ _ _ _ => (de_cmp (op_neD hr.units) os_ne.op (calD h_cross_in (hr.mono (by decide)) cld_mono (da_cons (de_var 2 (pv 2)) (da_cons (de_var 3 (pv 3)) da_nil))) de_int (nomark _))))) da_nil))))))

abbrev s_less : Stmt := top 22
theorem sc_less : FnScope N_less ["one", "other", "many"] (defScope s_less) := ⟨rfl, rfl, rfl, by decide +kernel, rfl, by decide +kernel, by decide +kernel⟩
theorem cal_less (A : DefAt K mg "less" s_less ["one", "other", "many"]) (g : Gl K mg)  : Cal P w K mg base 1 "less" (spD K C_less) := by
  refine cal_d A sc_less t_less (by rfl) (fun f cdv A outer s H E hr => ?_)
  have nd := sc_less.nd
  exact (dss_one (ds_ret (calTy call_tuple_of oa_tuple g.n_tuple (da_cons (de_frz (df_comp (own := [("first", 3), ("second", 4)]) rfl nd (di_zip (da_cons (de_var 0 (pv 0)) (da_cons (de_var 1 (pv 1)) da_nil)) (fun ta h => RZ.pi_zipA rfl g.n_zip h)) (blkOk_by (N := N_less) (sc := defScope s_less) (by decide +kernel)) (fun _ _ _ _ _ => (pg_tup rfl (pgs_cons (pg_name (i := 3) nd rfl (Or.inl rfl)) (pgs_cons (pg_name (i := 4) nd rfl (Or.inl rfl)) pgs_nil)))) (tg_tup (tgs_cons (tg_name (by decide)) (tgs_cons (tg_name (by decide)) tgs_nil))) (fun _ _ _ _ _ => dts_nil) (fun _ _ _ _ _ => (de_bin op_sub os_I0.op (de_var 3 (pv 3)) (de_bin op_mulW os_I.op (de_var 2 (pv 2)) (de_var 4 (pv 4))))))) da_nil))))

abbrev s_opposites_of : Stmt := top 23
theorem sc_opposites_of : FnScope N_opposites_of ["numbers"] (defScope s_opposites_of) := ⟨rfl, rfl, rfl, by decide +kernel, rfl, by decide +kernel, by decide +kernel⟩
theorem cal_opposites_of (A : DefAt K mg "opposites_of" s_opposites_of ["numbers"]) (g : Gl K mg)  : Cal P w K mg base 1 "opposites_of" (spD K C_opposites_of) := by
  refine cal_d A sc_opposites_of t_opposites_of (by rfl) (fun f cdv A outer s H E hr => ?_)
  have nd := sc_opposites_of.nd
  exact (dss_one (ds_ret (calTy call_tuple_of oa_tuple g.n_tuple (da_cons (de_frz (df_comp (own := [("number", 1)]) rfl nd (di_tup (de_var 0 (pv 0))) (blkOk_by (N := N_opposites_of) (sc := defScope s_opposites_of) (by decide +kernel)) (fun _ _ _ _ _ => (pg_name (i := 1) nd rfl (Or.inl rfl))) (tg_name (by decide)) (fun _ _ _ _ _ => dts_nil) (fun _ _ _ _ _ => (de_neg (de_var 1 (pv 1)))))) da_nil))))

abbrev s_Pair_pair : Stmt := meth (top 21) 4
theorem sc_Pair_pair : FnScope N_Pair_pair ["self"] (defScope s_Pair_pair) := ⟨rfl, rfl, rfl, by decide +kernel, rfl, by decide +kernel, by decide +kernel⟩
theorem cal_Pair_pair (A : MethAt K (Clss.adr "Pair") "pair" "Pair.pair" s_Pair_pair ["self"]) (g : Gl K mg)  : MCal P w K mg base 1 (Clss.adr "Pair") "pair" (spD K C_Pair_pair) := by
  refine mcal_d A sc_Pair_pair t_Pair_pair (by rfl) (fun f cdv A outer s H E hr => ?_)
  have nd := sc_Pair_pair.nd
  exact (dss_one (ds_ret (de_tup (da_cons (de_fldD 2 g.k_Pair rfl (de_var 0 (pv 0))) (da_cons (de_fldD 3 g.k_Pair rfl (de_var 0 (pv 0))) da_nil)))))

abbrev s_Pair_settle : Stmt := meth (top 21) 3
theorem sc_Pair_settle : FnScope N_Pair_settle ["self"] (defScope s_Pair_settle) := ⟨rfl, rfl, rfl, by decide +kernel, rfl, by decide +kernel, by decide +kernel⟩
theorem cal_Pair_settle (A : MethAt K (Clss.adr "Pair") "settle" "Pair.settle" s_Pair_settle ["self"]) (g : Gl K mg) (h_opposites_of : Cal P w K mg base 1 "opposites_of" (spD K C_opposites_of)) (h_less : Cal P w K mg base 1 "less" (spD K C_less)) : MCal P w K mg base 2 (Clss.adr "Pair") "settle" (spB K C_Pair_settle) := by
  refine mcal_b A sc_Pair_settle t_Pair_settle (by rfl) (fun f cdv A outer s H E hr => ?_)
  have nd := sc_Pair_settle.nd
  exact (dss_cons (ds_if (dt_cmp op_lt os_B0.op (de_ix (de_fldO 0 2 g.k_Pair rfl (pv 0)) de_int (fun _ _ => rfl)) de_int (nomark _)) (dss_one (ds_asg (de_tup (da_cons (calD h_less (hr.mono (by decide)) cld_mono (da_cons (de_tup (da_cons de_int (da_cons de_int da_nil))) (da_cons (de_fldO 0 2 g.k_Pair rfl (pv 0)) (da_cons de_int da_nil)))) (da_cons (calD h_opposites_of (hr.mono (by decide)) cld_mono (da_cons (de_fldO 0 0 g.k_Pair rfl (pv 0)) da_nil)) da_nil))) (dg_tup rfl (dgs_cons (dg_fld 0 2 g.k_Pair rfl (pv 0)) (dgs_cons (dg_fld 0 0 g.k_Pair rfl (pv 0)) dgs_nil))))) dss_nil)
  (dss_cons (ds_if (dt_cmp op_lt os_B0.op (de_ix (de_fldO 0 3 g.k_Pair rfl (pv 0)) de_int (fun _ _ => rfl)) de_int (nomark _)) (dss_one (ds_asg (de_tup (da_cons (calD h_less (hr.mono (by decide)) cld_mono (da_cons (de_tup (da_cons de_int (da_cons de_int da_nil))) (da_cons (de_fldO 0 3 g.k_Pair rfl (pv 0)) (da_cons de_int da_nil)))) (da_cons (calD h_opposites_of (hr.mono (by decide)) cld_mono (da_cons (de_fldO 0 1 g.k_Pair rfl (pv 0)) da_nil)) da_nil))) (dg_tup rfl (dgs_cons (dg_fld 0 3 g.k_Pair rfl (pv 0)) (dgs_cons (dg_fld 0 1 g.k_Pair rfl (pv 0)) dgs_nil))))) dss_nil)
  (dss_cons (ds_set (i := 1) nd rfl (Or.inl rfl) (de_bin op_fdivW os_I.op (de_ix (de_fldO 0 2 g.k_Pair rfl (pv 0)) de_int (fun _ _ => rfl)) (de_ix (de_fldO 0 3 g.k_Pair rfl (pv 0)) de_int (fun _ _ => rfl))))
  (dss_cons (ds_asg (calD h_less (hr.mono (by decide)) cld_mono (da_cons (de_fldO 0 2 g.k_Pair rfl (pv 0)) (da_cons (de_fldO 0 3 g.k_Pair rfl (pv 0)) (da_cons (de_var 1 (pv 1)) da_nil)))) (dg_fld 0 2 g.k_Pair rfl (pv 0)))
  (dss_one (ds_asg (calD h_less (hr.mono (by decide)) cld_mono (da_cons (de_fldO 0 0 g.k_Pair rfl (pv 0)) (da_cons (de_fldO 0 1 g.k_Pair rfl (pv 0)) (da_cons (de_var 1 (pv 1)) da_nil)))) (dg_fld 0 0 g.k_Pair rfl (pv 0))))))))

abbrev s_Pair_take : Stmt := meth (top 21) 2
theorem sc_Pair_take : FnScope N_Pair_take ["self", "step", "by"] (defScope s_Pair_take) := ⟨rfl, rfl, rfl, by decide +kernel, rfl, by decide +kernel, by decide +kernel⟩
theorem cal_Pair_take (A : MethAt K (Clss.adr "Pair") "take" "Pair.take" s_Pair_take ["self", "step", "by"]) (g : Gl K mg) (h_less : Cal P w K mg base 1 "less" (spD K C_less)) : MCal P w K mg base 2 (Clss.adr "Pair") "take" (spB K C_Pair_take) := by
  refine mcal_b A sc_Pair_take t_Pair_take (by rfl) (fun f cdv A outer s H E hr => ?_)
  have nd := sc_Pair_take.nd
  exact (dss_cons (ds_while PassesOwn.never (dt_cmp (op_neD hr.units) os_ne.op (de_ix (de_var 1 (pv 1)) de_int (fun _ _ => rfl)) de_int (nomark _)) (dss_one (ds_if (dt_cmp (op_eqD hr.units) os_eq.op (de_ix (de_fldO 0 2 g.k_Pair rfl (pv 0)) de_int (fun _ _ => rfl)) de_int (nomark _)) (dss_cons (ds_asg (de_tup (da_cons (de_fldO 0 2 g.k_Pair rfl (pv 0)) (da_cons (de_var 1 (pv 1)) da_nil))) (dg_tup rfl (dgs_cons (dg_name (pg_name (i := 1) nd rfl (Or.inl rfl))) (dgs_cons (dg_fld 0 2 g.k_Pair rfl (pv 0)) dgs_nil))))
  (dss_one (ds_asg (de_tup (da_cons (de_fldO 0 0 g.k_Pair rfl (pv 0)) (da_cons (de_var 2 (pv 2)) da_nil))) (dg_tup rfl (dgs_cons (dg_name (pg_name (i := 2) nd rfl (Or.inl rfl))) (dgs_cons (dg_fld 0 0 g.k_Pair rfl (pv 0)) dgs_nil)))))) (dss_cons (ds_set (i := 3) nd rfl (Or.inl rfl) (de_bin op_fdivG os_I.op (de_ix (de_var 1 (pv 1)) de_int (fun _ _ => rfl)) (de_ix (de_fldO 0 2 g.k_Pair rfl (pv 0)) de_int (fun _ _ => rfl))))
  (dss_cons (ds_par (da_cons (calD h_less (hr.mono (by decide)) cld_mono (da_cons (de_var 1 (pv 1)) (da_cons (de_fldO 0 2 g.k_Pair rfl (pv 0)) (da_cons (de_var 3 (pv 3)) da_nil)))) (da_cons (calD h_less (hr.mono (by decide)) cld_mono (da_cons (de_var 2 (pv 2)) (da_cons (de_fldO 0 0 g.k_Pair rfl (pv 0)) (da_cons (de_var 3 (pv 3)) da_nil)))) da_nil)) (fun ta h => ps_par (i := 1) (j := 2) rfl nd rfl rfl (by decide) rfl rfl h (by rfl)))
  (dss_one (ds_if (dt_cmp (op_neD hr.units) os_ne.op (de_ix (de_var 1 (pv 1)) de_int (fun _ _ => rfl)) de_int (nomark _)) (dss_cons (ds_asg (de_tup (da_cons (de_fldO 0 2 g.k_Pair rfl (pv 0)) (da_cons (de_var 1 (pv 1)) da_nil))) (dg_tup rfl (dgs_cons (dg_name (pg_name (i := 1) nd rfl (Or.inl rfl))) (dgs_cons (dg_fld 0 2 g.k_Pair rfl (pv 0)) dgs_nil))))
  (dss_one (ds_asg (de_tup (da_cons (de_fldO 0 0 g.k_Pair rfl (pv 0)) (da_cons (de_var 2 (pv 2)) da_nil))) (dg_tup rfl (dgs_cons (dg_name (pg_name (i := 2) nd rfl (Or.inl rfl))) (dgs_cons (dg_fld 0 0 g.k_Pair rfl (pv 0)) dgs_nil)))))) dss_nil)))))))
  (dss_one (ds_while PassesOwn.never (dt_cmp (op_neD hr.units) os_ne.op (de_ix (de_var 1 (pv 1)) de_int (fun _ _ => rfl)) de_int (nomark _)) (dss_cons (ds_if (dt_cmp (op_neD hr.units) os_ne.op (de_ix (de_fldO 0 3 g.k_Pair rfl (pv 0)) de_int (fun _ _ => rfl)) de_int (nomark _)) (dss_cons (ds_set (i := 3) nd rfl (Or.inl rfl) (de_bin op_fdivG os_I.op (de_ix (de_var 1 (pv 1)) de_int (fun _ _ => rfl)) (de_ix (de_fldO 0 3 g.k_Pair rfl (pv 0)) de_int (fun _ _ => rfl))))
  (dss_one (ds_par (da_cons (calD h_less (hr.mono (by decide)) cld_mono (da_cons (de_var 1 (pv 1)) (da_cons (de_fldO 0 3 g.k_Pair rfl (pv 0)) (da_cons (de_var 3 (pv 3)) da_nil)))) (da_cons (calD h_less (hr.mono (by decide)) cld_mono (da_cons (de_var 2 (pv 2)) (da_cons (de_fldO 0 1 g.k_Pair rfl (pv 0)) (da_cons (de_var 3 (pv 3)) da_nil)))) da_nil)) (fun ta h => ps_par (i := 1) (j := 2) rfl nd rfl rfl (by decide) rfl rfl h (by rfl))))) dss_nil)
  (dss_one (ds_if (dt_cmp (op_neD hr.units) os_ne.op (de_ix (de_var 1 (pv 1)) de_int (fun _ _ => rfl)) de_int (nomark _)) (dss_cons (ds_asg (de_tup (da_cons (de_fldO 0 3 g.k_Pair rfl (pv 0)) (da_cons (de_var 1 (pv 1)) da_nil))) (dg_tup rfl (dgs_cons (dg_name (pg_name (i := 1) nd rfl (Or.inl rfl))) (dgs_cons (dg_fld 0 3 g.k_Pair rfl (pv 0)) dgs_nil))))
  (dss_one (ds_asg (de_tup (da_cons (de_fldO 0 1 g.k_Pair rfl (pv 0)) (da_cons (de_var 2 (pv 2)) da_nil))) (dg_tup rfl (dgs_cons (dg_name (pg_name (i := 2) nd rfl (Or.inl rfl))) (dgs_cons (dg_fld 0 1 g.k_Pair rfl (pv 0)) dgs_nil)))))) dss_nil))))))

abbrev s_Pair___init__ : Stmt := meth (top 21) 1
theorem sc_Pair___init__ : FnScope N_Pair___init__ ["self", "steps"] (defScope s_Pair___init__) := ⟨rfl, rfl, rfl, by decide +kernel, rfl, by decide +kernel, by decide +kernel⟩
theorem cal_Pair___init__ (A : MethAt K (Clss.adr "Pair") "__init__" "Pair.__init__" s_Pair___init__ ["self", "steps"]) (g : Gl K mg) (h_Pair_take : MCal P w K mg base 2 (Clss.adr "Pair") "take" (spB K C_Pair_take)) (h_Pair_settle : MCal P w K mg base 2 (Clss.adr "Pair") "settle" (spB K C_Pair_settle)) : MCal P w K mg base 3 (Clss.adr "Pair") "__init__" (spB K C_Pair___init__) := by
  refine mcal_b A sc_Pair___init__ t_Pair___init__ (by rfl) (fun f cdv A outer s H E hr => ?_)
  have nd := sc_Pair___init__.nd
  exact (dss_cons (ds_set (i := 2) nd rfl (Or.inl rfl) (de_bin op_repT od_repT (de_tup (da_cons de_int da_nil)) (calBi call_len_seq oa_len g.n_len (da_cons (de_var 1 (pv 1)) da_nil))))
  (dss_cons (ds_asg (de_tup (da_cons (de_tup (da_cons de_int (da_cons de_int da_nil))) (da_cons (de_var 2 (pv 2)) da_nil))) (dg_tup rfl (dgs_cons (dg_fld 0 2 g.k_Pair rfl (pv 0)) (dgs_cons (dg_fld 0 0 g.k_Pair rfl (pv 0)) dgs_nil))))
  (dss_cons (ds_asg (de_tup (da_cons (de_tup (da_cons de_int (da_cons de_int da_nil))) (da_cons (de_var 2 (pv 2)) da_nil))) (dg_tup rfl (dgs_cons (dg_fld 0 3 g.k_Pair rfl (pv 0)) (dgs_cons (dg_fld 0 1 g.k_Pair rfl (pv 0)) dgs_nil))))
  (dss_cons (ds_for PassesOwn.never rfl (di_enum (de_var 1 (pv 1)) rfl g.n_enumerate) (dg_tup rfl (dgs_cons (dg_name (pg_name (i := 3) nd rfl (Or.inr rfl))) (dgs_cons (dg_name (pg_name (i := 4) nd rfl (Or.inl rfl))) dgs_nil))) (dss_one (ds_expr (calMO 0 h_Pair_take (hr.mono (by decide)) clb_mono g.k_Pair (pv 0) (da_cons (de_var 4 (pv 4)) (da_cons (calTy call_tuple_of oa_tuple g.n_tuple (da_cons (de_frz (df_comp (own := [("index", 5)]) rfl nd (di_rng1 (da_cons (calBi call_len_seq oa_len g.n_len (da_cons (de_var 1 (pv 1)) da_nil)) da_nil) (fun ta h => pi_range1 rfl g.n_range h)) (blkOk_by (N := N_Pair___init__) (sc := defScope s_Pair___init__) (by decide +kernel)) (fun _ _ _ _ _ => (pg_name (i := 5) nd rfl (Or.inl rfl))) (tg_name (by decide)) (fun _ _ _ _ _ => dts_nil) (fun _ _ _ _ _ => (calTy call_int1 oa_int g.n_int (da_cons (de_cmp (op_eqD hr.units) os_eq.op (de_var 3 (pv 3)) (de_var 5 (pv 5)) (nomark _)) da_nil))))) da_nil)) da_nil))))))
  (dss_one (ds_expr (calMO0 0 h_Pair_settle (hr.mono (by decide)) clb_mono g.k_Pair (pv 0))))))))

abbrev s_grid_pair_in : Stmt := top 24
theorem sc_grid_pair_in : FnScope N_grid_pair_in ["steps"] (defScope s_grid_pair_in) := ⟨rfl, rfl, rfl, by decide +kernel, rfl, by decide +kernel, by decide +kernel⟩
theorem cal_grid_pair_in (A : DefAt K mg "grid_pair_in" s_grid_pair_in ["steps"]) (g : Gl K mg) (h_Pair_pair : MCal P w K mg base 1 (Clss.adr "Pair") "pair" (spD K C_Pair_pair)) (h_Pair___init__ : MCal P w K mg base 3 (Clss.adr "Pair") "__init__" (spB K C_Pair___init__)) : Cal P w K mg base 5 "grid_pair_in" (spD K C_grid_pair_in) := by
  refine cal_d A sc_grid_pair_in t_grid_pair_in (by rfl) (fun f cdv A outer s H E hr => ?_)
  have nd := sc_grid_pair_in.nd
  exact (dss_one (ds_ret (calMD0 h_Pair_pair (hr.mono (by decide)) cld_mono g.k_Pair (de_frz (calNew 4 (h_Pair___init__.makes g.nm_Pair g.mk_Pair g.kp_Pair) (hr.mono (by decide)) clb_mono (da_cons (de_var 0 (pv 0)) da_nil))))))

abbrev s_index_in : Stmt := top 25
theorem sc_index_in : FnScope N_index_in ["steps"] (defScope s_index_in) := ⟨rfl, rfl, rfl, by decide +kernel, rfl, by decide +kernel, by decide +kernel⟩
theorem cal_index_in (A : DefAt K mg "index_in" s_index_in ["steps"]) (g : Gl K mg) (h_grid_pair_in : Cal P w K mg base 5 "grid_pair_in" (spD K C_grid_pair_in)) : Cal P w K mg base 6 "index_in" (spD K C_index_in) := by
  refine cal_d A sc_index_in t_index_in (by rfl) (fun f cdv A outer s H E hr => ?_)
  have nd := sc_index_in.nd
  exact (dss_cons (ds_asg (calD h_grid_pair_in (hr.mono (by decide)) cld_mono (da_cons (de_var 0 (pv 0)) da_nil)) (dg_tup rfl (dgs_cons (dg_tup rfl (dgs_cons (dg_name (pg_name (i := 1) nd rfl (Or.inl rfl))) (dgs_cons (dg_name (pg_name (i := 2) nd rfl (Or.inl rfl))) dgs_nil))) (dgs_cons (dg_tup rfl (dgs_cons (dg_name (pg_name (i := 3) nd rfl (Or.inl rfl))) (dgs_cons (dg_name (pg_name (i := 4) nd rfl (Or.inl rfl))) dgs_nil))) dgs_nil))))
  (dss_one (ds_ret (de_bin op_mulW os_I.op (de_var 1 (pv 1)) (de_var 4 (pv 4))))))

abbrev s_least_common : Stmt := top 26
theorem sc_least_common : FnScope N_least_common ["one", "other"] (defScope s_least_common) := ⟨rfl, rfl, rfl, by decide +kernel, rfl, by decide +kernel, by decide +kernel⟩
theorem cal_least_common (A : DefAt K mg "least_common" s_least_common ["one", "other"]) (g : Gl K mg) (h_common_divisor : Cal P w K mg base 1 "common_divisor" (spD K C_common_divisor)) : Cal P w K mg base 2 "least_common" (spD K C_least_common) := by
  refine cal_d A sc_least_common t_least_common (by rfl) (fun f cdv A outer s H E hr => ?_)
  have nd := sc_least_common.nd
  exact (dss_one (ds_ret (de_bin op_mulW os_I.op (de_bin op_fdivW os_I.op (de_var 0 (pv 0)) (calD h_common_divisor (hr.mono (by decide)) cld_mono (da_cons (de_var 0 (pv 0)) (da_cons (de_var 1 (pv 1)) da_nil)))) (de_var 1 (pv 1)))))

abbrev s_Pair_told_as : Stmt := meth (top 21) 5
theorem sc_Pair_told_as : FnScope N_Pair_told_as ["self", "point"] (defScope s_Pair_told_as) := ⟨rfl, rfl, rfl, by decide +kernel, rfl, by decide +kernel, by decide +kernel⟩
theorem cal_Pair_told_as (A : MethAt K (Clss.adr "Pair") "told_as" "Pair.told_as" s_Pair_told_as ["self", "point"]) (g : Gl K mg)  : MCal P w K mg base 1 (Clss.adr "Pair") "told_as" (spD K C_Pair_told_as) := by
  refine mcal_d A sc_Pair_told_as t_Pair_told_as (by rfl) (fun f cdv A outer s H E hr => ?_)
  have nd := sc_Pair_told_as.nd
  exact (dss_cons (ds_asg (de_var 1 (pv 1)) (dg_tup rfl (dgs_cons (dg_name (pg_name (i := 2) nd rfl (Or.inl rfl))) (dgs_cons (dg_name (pg_name (i := 3) nd rfl (Or.inl rfl))) dgs_nil))))
  (dss_cons (ds_if (dt_cmp (op_neD hr.units) os_ne.op (de_bin op_mod os_I.op (de_var 2 (pv 2)) (de_ix (de_fldD 2 g.k_Pair rfl (de_var 0 (pv 0))) de_int (fun _ _ => rfl))) de_int (nomark _)) (dss_one (ds_ret de_non)) dss_nil)
  (dss_cons (ds_set (i := 4) nd rfl (Or.inr rfl) (de_bin op_fdivW os_I.op (de_var 2 (pv 2)) (de_ix (de_fldD 2 g.k_Pair rfl (de_var 0 (pv 0))) de_int (fun _ _ => rfl))))
  (dss_cons (ds_set (i := 5) nd rfl (Or.inl rfl) (de_bin op_sub os_I0.op (de_var 3 (pv 3)) (de_bin op_mulW os_I.op (de_var 4 (pv 4)) (de_ix (de_fldD 2 g.k_Pair rfl (de_var 0 (pv 0))) de_int (fun _ _ => rfl)))))
  (dss_cons (ds_if (dt_cmp (op_neD hr.units) os_ne.op (de_bin op_mod os_I.op (de_var 5 (pv 5)) (de_ix (de_fldD 3 g.k_Pair rfl (de_var 0 (pv 0))) de_int (fun _ _ => rfl))) de_int (nomark _)) (dss_one (ds_ret de_non)) dss_nil)
  (dss_cons (ds_set (i := 6) nd rfl (Or.inr rfl) (de_bin op_fdivW os_I.op (de_var 5 (pv 5)) (de_ix (de_fldD 3 g.k_Pair rfl (de_var 0 (pv 0))) de_int (fun _ _ => rfl))))
  (dss_one (ds_ret (calTy call_tuple_of oa_tuple g.n_tuple (da_cons (de_frz (df_comp (own := [("one", 7), ("other", 8)]) rfl nd (di_zip (da_cons (de_fldD 0 g.k_Pair rfl (de_var 0 (pv 0))) (da_cons (de_fldD 1 g.k_Pair rfl (de_var 0 (pv 0))) da_nil)) (fun ta h => RZ.pi_zipA rfl g.n_zip h)) (blkOk_by (N := N_Pair_told_as) (sc := defScope s_Pair_told_as) (by decide +kernel)) (fun _ _ _ _ _ => (pg_tup rfl (pgs_cons (pg_name (i := 7) nd rfl (Or.inl rfl)) (pgs_cons (pg_name (i := 8) nd rfl (Or.inl rfl)) pgs_nil)))) (tg_tup (tgs_cons (tg_name (by decide)) (tgs_cons (tg_name (by decide)) tgs_nil))) (fun _ _ _ _ _ => dts_nil) (fun _ _ _ _ _ => (de_bin op_addA od_add (de_bin op_mulW os_I.op (de_var 4 (pv 4)) (de_var 7 (pv 7))) (de_bin op_mulW os_I.op (de_var 6 (pv 6)) (de_var 8 (pv 8))))))) da_nil))))))))))

abbrev s_has_in_grid : Stmt := top 27
theorem sc_has_in_grid : FnScope N_has_in_grid ["steps", "point"] (defScope s_has_in_grid) := ⟨rfl, rfl, rfl, by decide +kernel, rfl, by decide +kernel, by decide +kernel⟩
theorem cal_has_in_grid (A : DefAt K mg "has_in_grid" s_has_in_grid ["steps", "point"]) (g : Gl K mg) (h_Pair_told_as : MCal P w K mg base 1 (Clss.adr "Pair") "told_as" (spD K C_Pair_told_as)) (h_Pair___init__ : MCal P w K mg base 3 (Clss.adr "Pair") "__init__" (spB K C_Pair___init__)) : Cal P w K mg base 5 "has_in_grid" (spD K C_has_in_grid) := by
  refine cal_d A sc_has_in_grid t_has_in_grid (by rfl) (fun f cdv A outer s H E hr => ?_)
  have nd := sc_has_in_grid.nd
  exact (dss_one (ds_ret (de_cmp op_notN os_notN.op (calMD h_Pair_told_as (hr.mono (by decide)) cld_mono g.k_Pair (de_frz (calNew 4 (h_Pair___init__.makes g.nm_Pair g.mk_Pair g.kp_Pair) (hr.mono (by decide)) clb_mono (da_cons (de_var 0 (pv 0)) da_nil))) (da_cons (de_var 1 (pv 1)) da_nil)) de_non (nomark _))))

abbrev s_meeting_remainder : Stmt := top 28
theorem sc_meeting_remainder : FnScope N_meeting_remainder ["one", "other", "first", "second"] (defScope s_meeting_remainder) := ⟨rfl, rfl, rfl, by decide +kernel, rfl, by decide +kernel, by decide +kernel⟩
theorem cal_meeting_remainder (A : DefAt K mg "meeting_remainder" s_meeting_remainder ["one", "other", "first", "second"]) (g : Gl K mg) (h_common_divisor : Cal P w K mg base 1 "common_divisor" (spD K C_common_divisor)) (h_makers_in : Cal P w K mg base 1 "makers_in" (spD K C_makers_in)) (h_least_common : Cal P w K mg base 2 "least_common" (spD K C_least_common)) : Cal P w K mg base 3 "meeting_remainder" (spD K C_meeting_remainder) := by
  refine cal_d A sc_meeting_remainder t_meeting_remainder (by rfl) (fun f cdv A outer s H E hr => ?_)
  have nd := sc_meeting_remainder.nd
  exact (dss_cons (ds_set (i := 4) nd rfl (Or.inl rfl) (calD h_common_divisor (hr.mono (by decide)) cld_mono (da_cons (de_var 0 (pv 0)) (da_cons (de_var 1 (pv 1)) da_nil))))
  (dss_cons (ds_asg (calD h_makers_in (hr.mono (by decide)) cld_mono (da_cons (de_var 0 (pv 0)) (da_cons (de_var 1 (pv 1)) da_nil))) (dg_tup rfl (dgs_cons (dg_name (pg_name (i := 5) nd rfl (Or.inl rfl))) (dgs_cons (dg_name (pg_name (i := 6) nd rfl (Or.inl rfl))) dgs_nil))))
  (dss_one (ds_ret (de_bin op_mod os_I.op (de_bin op_addA od_add (de_var 2 (pv 2)) (de_bin op_mulW os_I.op (de_bin op_mulW os_I.op (de_bin op_fdivW os_I.op (de_bin op_sub os_I0.op (de_var 3 (pv 3)) (de_var 2 (pv 2))) (de_var 4 (pv 4))) (de_var 5 (pv 5))) (de_var 0 (pv 0)))) (calD h_least_common (hr.mono (by decide)) cld_mono (da_cons (de_var 0 (pv 0)) (da_cons (de_var 1 (pv 1)) da_nil))))))))

abbrev s_shared_pair : Stmt := top 29
theorem sc_shared_pair : FnScope N_shared_pair ["steps", "others"] (defScope s_shared_pair) := ⟨rfl, rfl, rfl, by decide +kernel, rfl, by decide +kernel, by decide +kernel⟩
theorem cal_shared_pair (A : DefAt K mg "shared_pair" s_shared_pair ["steps", "others"]) (g : Gl K mg) (h_grid_pair_in : Cal P w K mg base 5 "grid_pair_in" (spD K C_grid_pair_in)) (h_common_divisor : Cal P w K mg base 1 "common_divisor" (spD K C_common_divisor)) (h_least_common : Cal P w K mg base 2 "least_common" (spD K C_least_common)) (h_meeting_remainder : Cal P w K mg base 3 "meeting_remainder" (spD K C_meeting_remainder)) : Cal P w K mg base 6 "shared_pair" (spD K C_shared_pair) := by
  refine cal_d A sc_shared_pair t_shared_pair (by rfl) (fun f cdv A outer s H E hr => ?_)
  have nd := sc_shared_pair.nd
  exact (dss_cons (ds_asg (calD h_grid_pair_in (hr.mono (by decide)) cld_mono (da_cons (de_var 0 (pv 0)) da_nil)) (dg_tup rfl (dgs_cons (dg_tup rfl (dgs_cons (dg_name (pg_name (i := 2) nd rfl (Or.inl rfl))) (dgs_cons (dg_name (pg_name (i := 3) nd rfl (Or.inl rfl))) dgs_nil))) (dgs_cons (dg_tup rfl (dgs_cons (dg_name (pg_name (i := 4) nd rfl (Or.inl rfl))) (dgs_cons (dg_name (pg_name (i := 5) nd rfl (Or.inl rfl))) dgs_nil))) dgs_nil))))
  (dss_cons (ds_asg (calD h_grid_pair_in (hr.mono (by decide)) cld_mono (da_cons (de_var 1 (pv 1)) da_nil)) (dg_tup rfl (dgs_cons (dg_tup rfl (dgs_cons (dg_name (pg_name (i := 6) nd rfl (Or.inl rfl))) (dgs_cons (dg_name (pg_name (i := 7) nd rfl (Or.inl rfl))) dgs_nil))) (dgs_cons (dg_tup rfl (dgs_cons (dg_name (pg_name (i := 8) nd rfl (Or.inl rfl))) (dgs_cons (dg_name (pg_name (i := 9) nd rfl (Or.inl rfl))) dgs_nil))) dgs_nil))))
  (dss_cons (ds_par (da_cons (calD h_least_common (hr.mono (by decide)) cld_mono (da_cons (de_var 2 (pv 2)) (da_cons (de_var 6 (pv 6)) da_nil))) (da_cons (calD h_common_divisor (hr.mono (by decide)) cld_mono (da_cons (de_var 5 (pv 5)) (da_cons (de_var 9 (pv 9)) da_nil))) da_nil)) (fun ta h => ps_par (i := 10) (j := 11) rfl nd rfl rfl (by decide) rfl rfl h (by rfl)))
  (dss_cons (ds_set (i := 12) nd rfl (Or.inl rfl) (de_bin op_mod os_I.op (de_bin op_sub os_I0.op (de_bin op_mulW os_I.op (de_bin op_fdivW os_I.op (de_var 10 (pv 10)) (de_var 2 (pv 2))) (de_var 3 (pv 3))) (de_bin op_mulW os_I.op (de_bin op_fdivW os_I.op (de_var 10 (pv 10)) (de_var 6 (pv 6))) (de_var 7 (pv 7)))) (de_var 11 (pv 11))))
  (dss_cons (ds_set (i := 13) nd rfl (Or.inl rfl) (de_bin op_fdivW os_I.op (de_var 11 (pv 11)) (calD h_common_divisor (hr.mono (by decide)) cld_mono (da_cons (de_var 11 (pv 11)) (da_cons (de_var 12 (pv 12)) da_nil)))))
  (dss_cons (ds_par (da_cons (de_bin op_mulW os_I.op (de_bin op_mulW os_I.op (de_var 13 (pv 13)) (de_bin op_fdivW os_I.op (de_var 10 (pv 10)) (de_var 2 (pv 2)))) (de_var 3 (pv 3))) (da_cons (de_bin op_mulW os_I.op (de_bin op_mulW os_I.op (de_var 13 (pv 13)) (de_bin op_fdivW os_I.op (de_var 10 (pv 10)) (de_var 6 (pv 6)))) (de_var 7 (pv 7))) da_nil)) (fun ta h => ps_par (i := 14) (j := 15) rfl nd rfl rfl (by decide) rfl rfl h (by rfl)))
  (dss_one (ds_ret (de_tup (da_cons (de_tup (da_cons (de_bin op_mulW os_I.op (de_var 13 (pv 13)) (de_var 10 (pv 10))) (da_cons (calD h_meeting_remainder (hr.mono (by decide)) cld_mono (da_cons (de_var 5 (pv 5)) (da_cons (de_var 9 (pv 9)) (da_cons (de_var 14 (pv 14)) (da_cons (de_var 15 (pv 15)) da_nil))))) da_nil))) (da_cons (de_tup (da_cons de_int (da_cons (calD h_least_common (hr.mono (by decide)) cld_mono (da_cons (de_var 5 (pv 5)) (da_cons (de_var 9 (pv 9)) da_nil))) da_nil))) da_nil)))))))))))

abbrev s_is_within_grid : Stmt := top 30
theorem sc_is_within_grid : FnScope N_is_within_grid ["steps", "others"] (defScope s_is_within_grid) := ⟨rfl, rfl, rfl, by decide +kernel, rfl, by decide +kernel, by decide +kernel⟩
theorem cal_is_within_grid (A : DefAt K mg "is_within_grid" s_is_within_grid ["steps", "others"]) (g : Gl K mg) (h_Pair___init__ : MCal P w K mg base 3 (Clss.adr "Pair") "__init__" (spB K C_Pair___init__)) (h_Pair_told_as : MCal P w K mg base 1 (Clss.adr "Pair") "told_as" (spD K C_Pair_told_as)) : Cal P w K mg base 5 "is_within_grid" (spD K C_is_within_grid) := by
  refine cal_d A sc_is_within_grid t_is_within_grid (by rfl) (fun f cdv A outer s H E hr => ?_)
  have nd := sc_is_within_grid.nd
  exact (dss_cons (ds_set (i := 2) nd rfl (Or.inr rfl) (de_frz (calNew 4 (h_Pair___init__.makes g.nm_Pair g.mk_Pair g.kp_Pair) (hr.mono (by decide)) clb_mono (da_cons (de_var 1 (pv 1)) da_nil))))
  (dss_one (ds_ret (calBi (cr_all rfl) oa_all g.n_all (da_cons (de_frz (df_comp (own := [("step", 3)]) rfl nd (di_tup (de_var 0 (pv 0))) (blkOk_by (N := N_is_within_grid) (sc := defScope s_is_within_grid) (by decide +kernel)) (fun _ _ _ _ _ => (pg_name (i := 3) nd rfl (Or.inl rfl))) (tg_name (by decide)) (fun _ _ _ _ _ => dts_nil) (fun _ _ _ _ _ => (de_cmp op_notN os_notN.op (calMD h_Pair_told_as (hr.mono (by decide)) cld_mono g.k_Pair (de_var 2 (pv 2)) (da_cons (de_var 3 (pv 3)) da_nil)) de_non (nomark _))))) da_nil)))))

abbrev s_require_grid : Stmt := top 31
theorem sc_require_grid : FnScope N_require_grid ["value"] (defScope s_require_grid) := ⟨rfl, rfl, rfl, by decide +kernel, rfl, by decide +kernel, by decide +kernel⟩
theorem cal_require_grid (A : DefAt K mg "require_grid" s_require_grid ["value"]) (g : Gl K mg) (h_is_grid_in : Cal P w K mg base 4 "is_grid_in" (spD K C_is_grid_in)) : Cal P w K mg base 5 "require_grid" (spD K C_require_grid) := by
  refine cal_d A sc_require_grid t_require_grid (by rfl) (fun f cdv A outer s H E hr => ?_)
  have nd := sc_require_grid.nd
  exact (dss_one (ds_if (dt_not (dt_val (calD h_is_grid_in (hr.mono (by decide)) cld_mono (da_cons (de_var 0 (pv 0)) da_nil)))) (dss_one ds_never) dss_nil))

abbrev s_require_grid_point : Stmt := top 32
theorem sc_require_grid_point : FnScope N_require_grid_point ["steps", "point"] (defScope s_require_grid_point) := ⟨rfl, rfl, rfl, by decide +kernel, rfl, by decide +kernel, by decide +kernel⟩
theorem cal_require_grid_point (A : DefAt K mg "require_grid_point" s_require_grid_point ["steps", "point"]) (g : Gl K mg) (h_require_grid : Cal P w K mg base 5 "require_grid" (spD K C_require_grid)) (h_require_point : Cal P w K mg base 4 "require_point" (spD K C_require_point)) : Cal P w K mg base 6 "require_grid_point" (spD K C_require_grid_point) := by
  refine cal_d A sc_require_grid_point t_require_grid_point (by rfl) (fun f cdv A outer s H E hr => ?_)
  have nd := sc_require_grid_point.nd
  exact (dss_cons (ds_expr (calD h_require_grid (hr.mono (by decide)) cld_mono (da_cons (de_var 0 (pv 0)) da_nil)))
  (dss_one (ds_expr (calD h_require_point (hr.mono (by decide)) cld_mono (da_cons (de_var 1 (pv 1)) da_nil)))))

abbrev s_require_grids : Stmt := top 33
theorem sc_require_grids : FnScope N_require_grids ["steps", "others"] (defScope s_require_grids) := ⟨rfl, rfl, rfl, by decide +kernel, rfl, by decide +kernel, by decide +kernel⟩
theorem cal_require_grids (A : DefAt K mg "require_grids" s_require_grids ["steps", "others"]) (g : Gl K mg) (h_require_grid : Cal P w K mg base 5 "require_grid" (spD K C_require_grid)) : Cal P w K mg base 6 "require_grids" (spD K C_require_grids) := by
  refine cal_d A sc_require_grids t_require_grids (by rfl) (fun f cdv A outer s H E hr => ?_)
  have nd := sc_require_grids.nd
  exact (dss_cons (ds_expr (calD h_require_grid (hr.mono (by decide)) cld_mono (da_cons (de_var 0 (pv 0)) da_nil)))
  (dss_one (ds_expr (calD h_require_grid (hr.mono (by decide)) cld_mono (da_cons (de_var 1 (pv 1)) da_nil)))))

abbrev s_grid_pair : Stmt := top 34
theorem sc_grid_pair : FnScope N_grid_pair ["steps"] (defScope s_grid_pair) := ⟨rfl, rfl, rfl, by decide +kernel, rfl, by decide +kernel, by decide +kernel⟩
theorem cal_grid_pair (A : DefAt K mg "grid_pair" s_grid_pair ["steps"]) (g : Gl K mg) (h_require_grid : Cal P w K mg base 5 "require_grid" (spD K C_require_grid)) (h_grid_pair_in : Cal P w K mg base 5 "grid_pair_in" (spD K C_grid_pair_in)) : Cal P w K mg base 6 "grid_pair" (spD K C_grid_pair) := by
  refine cal_d A sc_grid_pair t_grid_pair (by rfl) (fun f cdv A outer s H E hr => ?_)
  have nd := sc_grid_pair.nd
  exact (dss_cons (ds_expr (calD h_require_grid (hr.mono (by decide)) cld_mono (da_cons (de_var 0 (pv 0)) da_nil)))
  (dss_one (ds_ret (calD h_grid_pair_in (hr.mono (by decide)) cld_mono (da_cons (de_var 0 (pv 0)) da_nil)))))

abbrev s_grid_index : Stmt := top 35
theorem sc_grid_index : FnScope N_grid_index ["steps"] (defScope s_grid_index) := ⟨rfl, rfl, rfl, by decide +kernel, rfl, by decide +kernel, by decide +kernel⟩
theorem cal_grid_index (A : DefAt K mg "grid_index" s_grid_index ["steps"]) (g : Gl K mg) (h_require_grid : Cal P w K mg base 5 "require_grid" (spD K C_require_grid)) (h_index_in : Cal P w K mg base 6 "index_in" (spD K C_index_in)) : Cal P w K mg base 7 "grid_index" (spD K C_grid_index) := by
  refine cal_d A sc_grid_index t_grid_index (by rfl) (fun f cdv A outer s H E hr => ?_)
  have nd := sc_grid_index.nd
  exact (dss_cons (ds_expr (calD h_require_grid (hr.mono (by decide)) cld_mono (da_cons (de_var 0 (pv 0)) da_nil)))
  (dss_one (ds_ret (calD h_index_in (hr.mono (by decide)) cld_mono (da_cons (de_var 0 (pv 0)) da_nil)))))

abbrev s_is_in_grid : Stmt := top 36
theorem sc_is_in_grid : FnScope N_is_in_grid ["steps", "point"] (defScope s_is_in_grid) := ⟨rfl, rfl, rfl, by decide +kernel, rfl, by decide +kernel, by decide +kernel⟩
theorem cal_is_in_grid (A : DefAt K mg "is_in_grid" s_is_in_grid ["steps", "point"]) (g : Gl K mg) (h_require_grid_point : Cal P w K mg base 6 "require_grid_point" (spD K C_require_grid_point)) (h_has_in_grid : Cal P w K mg base 5 "has_in_grid" (spD K C_has_in_grid)) : Cal P w K mg base 7 "is_in_grid" (spD K C_is_in_grid) := by
  refine cal_d A sc_is_in_grid t_is_in_grid (by rfl) (fun f cdv A outer s H E hr => ?_)
  have nd := sc_is_in_grid.nd
  exact (dss_cons (ds_expr (calD h_require_grid_point (hr.mono (by decide)) cld_mono (da_cons (de_var 0 (pv 0)) (da_cons (de_var 1 (pv 1)) da_nil))))
  (dss_one (ds_ret (calD h_has_in_grid (hr.mono (by decide)) cld_mono (da_cons (de_var 0 (pv 0)) (da_cons (de_var 1 (pv 1)) da_nil))))))

abbrev s_joint_grid : Stmt := top 37
theorem sc_joint_grid : FnScope N_joint_grid ["steps", "others"] (defScope s_joint_grid) := ⟨rfl, rfl, rfl, by decide +kernel, rfl, by decide +kernel, by decide +kernel⟩
theorem cal_joint_grid (A : DefAt K mg "joint_grid" s_joint_grid ["steps", "others"]) (g : Gl K mg) (h_require_grids : Cal P w K mg base 6 "require_grids" (spD K C_require_grids)) (h_grid_pair_in : Cal P w K mg base 5 "grid_pair_in" (spD K C_grid_pair_in)) : Cal P w K mg base 7 "joint_grid" (spD K C_joint_grid) := by
  refine cal_d A sc_joint_grid t_joint_grid (by rfl) (fun f cdv A outer s H E hr => ?_)
  have nd := sc_joint_grid.nd
  exact (dss_cons (ds_expr (calD h_require_grids (hr.mono (by decide)) cld_mono (da_cons (de_var 0 (pv 0)) (da_cons (de_var 1 (pv 1)) da_nil))))
  (dss_one (ds_ret (calD h_grid_pair_in (hr.mono (by decide)) cld_mono (da_cons (de_bin op_addA od_add (de_var 0 (pv 0)) (de_var 1 (pv 1))) da_nil)))))

abbrev s_shared_grid : Stmt := top 38
theorem sc_shared_grid : FnScope N_shared_grid ["steps", "others"] (defScope s_shared_grid) := ⟨rfl, rfl, rfl, by decide +kernel, rfl, by decide +kernel, by decide +kernel⟩
theorem cal_shared_grid (A : DefAt K mg "shared_grid" s_shared_grid ["steps", "others"]) (g : Gl K mg) (h_require_grids : Cal P w K mg base 6 "require_grids" (spD K C_require_grids)) (h_shared_pair : Cal P w K mg base 6 "shared_pair" (spD K C_shared_pair)) : Cal P w K mg base 7 "shared_grid" (spD K C_shared_grid) := by
  refine cal_d A sc_shared_grid t_shared_grid (by rfl) (fun f cdv A outer s H E hr => ?_)
  have nd := sc_shared_grid.nd
  exact (dss_cons (ds_expr (calD h_require_grids (hr.mono (by decide)) cld_mono (da_cons (de_var 0 (pv 0)) (da_cons (de_var 1 (pv 1)) da_nil))))
  (dss_one (ds_ret (calD h_shared_pair (hr.mono (by decide)) cld_mono (da_cons (de_var 0 (pv 0)) (da_cons (de_var 1 (pv 1)) da_nil))))))

abbrev s_lies_within : Stmt := top 39
theorem sc_lies_within : FnScope N_lies_within ["steps", "others"] (defScope s_lies_within) := ⟨rfl, rfl, rfl, by decide +kernel, rfl, by decide +kernel, by decide +kernel⟩
theorem cal_lies_within (A : DefAt K mg "lies_within" s_lies_within ["steps", "others"]) (g : Gl K mg) (h_require_grids : Cal P w K mg base 6 "require_grids" (spD K C_require_grids)) (h_is_within_grid : Cal P w K mg base 5 "is_within_grid" (spD K C_is_within_grid)) : Cal P w K mg base 7 "lies_within" (spD K C_lies_within) := by
  refine cal_d A sc_lies_within t_lies_within (by rfl) (fun f cdv A outer s H E hr => ?_)
  have nd := sc_lies_within.nd
  exact (dss_cons (ds_expr (calD h_require_grids (hr.mono (by decide)) cld_mono (da_cons (de_var 0 (pv 0)) (da_cons (de_var 1 (pv 1)) da_nil))))
  (dss_one (ds_ret (calD h_is_within_grid (hr.mono (by decide)) cld_mono (da_cons (de_var 0 (pv 0)) (da_cons (de_var 1 (pv 1)) da_nil))))))

abbrev s_are_same : Stmt := top 40
theorem sc_are_same : FnScope N_are_same ["steps", "others"] (defScope s_are_same) := ⟨rfl, rfl, rfl, by decide +kernel, rfl, by decide +kernel, by decide +kernel⟩
theorem cal_are_same (A : DefAt K mg "are_same" s_are_same ["steps", "others"]) (g : Gl K mg) (h_require_grids : Cal P w K mg base 6 "require_grids" (spD K C_require_grids)) (h_grid_pair_in : Cal P w K mg base 5 "grid_pair_in" (spD K C_grid_pair_in)) : Cal P w K mg base 7 "are_same" (spD K C_are_same) := by
  refine cal_d A sc_are_same t_are_same (by rfl) (fun f cdv A outer s H E hr => ?_)
  have nd := sc_are_same.nd
  exact (dss_cons (ds_expr (calD h_require_grids (hr.mono (by decide)) cld_mono (da_cons (de_var 0 (pv 0)) (da_cons (de_var 1 (pv 1)) da_nil))))
  (dss_one (ds_ret (de_cmp (op_eqD hr.units) os_eq.op (calD h_grid_pair_in (hr.mono (by decide)) cld_mono (da_cons (de_var 0 (pv 0)) da_nil)) (calD h_grid_pair_in (hr.mono (by decide)) cld_mono (da_cons (de_var 1 (pv 1)) da_nil)) (nomark _)))))

abbrev s__law_dice : Stmt := top 42
theorem sc__law_dice : FnScope N__law_dice ["script", "spot"] (defScope s__law_dice) := ⟨rfl, rfl, rfl, by decide +kernel, rfl, by decide +kernel, by decide +kernel⟩
theorem cal__law_dice (A : DefAt K mg "_law_dice" s__law_dice ["script", "spot"]) (g : Gl K mg)  : Cal P w K mg base 1 "_law_dice" (spF K C__law_dice) := by
  refine cal_f A sc__law_dice t__law_dice (by rfl) (fun f cdv A outer s H E hr => ?_)
  have nd := sc__law_dice.nd
  exact (dss_cons (ds_set (i := 2) nd rfl (Or.inl rfl) (de_if (dt_cmp op_lt os_B0.op (de_var 1 (pv 1)) (calBi call_len_seq oa_len g.n_len (da_cons (de_var 0 (pv 0)) da_nil)) (nomark _)) (calTy call_int1 oa_int g.n_int (da_cons (de_ix (de_var 0 (pv 0)) (de_var 1 (pv 1)) (fun _ _ => rfl)) da_nil)) (de_bin op_addA od_add (de_bin op_mulW os_I.op de_int (de_var 1 (pv 1))) de_int)))
  (dss_cons (ds_set (i := 3) nd rfl (Or.inl rfl) (de_bin op_mod os_I.op (calBi (call_max2 rfl) oa_max g.n_max (da_cons de_int (da_cons (de_bin op_sub os_I0.op (calBi call_abs oa_abs g.n_abs (da_cons (de_var 2 (pv 2)) da_nil)) (de_bin op_pow os_I.op de_int de_int)) da_nil))) (de_bin op_mulW os_I.op (de_bin op_pow os_I.op de_int de_int) (de_bin op_pow os_I.op de_int de_int))))
  (dss_one (ds_retF (df_lst (da_cons (de_var 3 (pv 3)) (da_cons (de_bin op_mod os_I.op (de_bin op_addA od_add (de_bin op_addA od_add (de_bin op_mod os_I.op (calBi call_abs oa_abs g.n_abs (da_cons (de_var 2 (pv 2)) da_nil)) de_int) (de_bin op_mulW os_I.op de_int (de_var 1 (pv 1)))) (de_bin op_mulW os_I.op de_int (calTy call_int1 oa_int g.n_int (da_cons (de_cmp op_lt os_B0.op (de_var 2 (pv 2)) de_int (nomark _)) da_nil)))) de_int) da_nil)))))))

abbrev s__law_roll : Stmt := top 43
theorem sc__law_roll : FnScope N__law_roll ["dice", "total"] (defScope s__law_roll) := ⟨rfl, rfl, rfl, by decide +kernel, rfl, by decide +kernel, by decide +kernel⟩
theorem cal__law_roll (A : DefAt K mg "_law_roll" s__law_roll ["dice", "total"]) (g : Gl K mg)  : Cal P w K mg base 1 "_law_roll" (spB K C__law_roll) := by
  refine cal_b A sc__law_roll t__law_roll (by rfl) (fun f cdv A outer s H E hr => ?_)
  have nd := sc__law_roll.nd
  exact (dss_cons (ds_if (dt_cmp op_gt os_B0.op (de_ixN 0 (pv 0) de_int (fun _ _ => rfl)) de_int (nomark _)) (dss_cons (ds_set (i := 2) nd rfl (Or.inl rfl) (calTy call_int1 oa_int g.n_int (da_cons (de_bin op_mod os_I.op (de_ixN 0 (pv 0) de_int (fun _ _ => rfl)) (de_var 1 (pv 1))) da_nil)))
  (dss_cons (ds_setIx (i := 0) (de_bin op_fdivW os_I.op (de_ixN 0 (pv 0) de_int (fun _ _ => rfl)) (de_var 1 (pv 1))) de_int (fun te tk h1 h2 => ps_asg h1 (pg_sub (pv 0) h2 set_list)))
  (dss_one (ds_ret (de_var 2 (pv 2)))))) dss_nil)
  (dss_cons (ds_setIx (i := 0) (de_bin op_mod os_I.op (de_bin op_addA od_add (de_bin op_mulW os_I.op (de_ixN 0 (pv 0) de_int (fun _ _ => rfl)) de_int) de_int) de_int) de_int (fun te tk h1 h2 => ps_asg h1 (pg_sub (pv 0) h2 set_list)))
  (dss_one (ds_ret (de_bin op_mod os_I.op (calTy call_int1 oa_int g.n_int (da_cons (de_bin op_fdivW os_I.op (de_ixN 0 (pv 0) de_int (fun _ _ => rfl)) de_int) da_nil)) (de_var 1 (pv 1)))))))

abbrev s__law_common : Stmt := top 44
theorem sc__law_common : FnScope N__law_common ["one", "far"] (defScope s__law_common) := ⟨rfl, rfl, rfl, by decide +kernel, rfl, by decide +kernel, by decide +kernel⟩
theorem cal__law_common (A : DefAt K mg "_law_common" s__law_common ["one", "far"]) (g : Gl K mg)  : Cal P w K mg base 1 "_law_common" (spD K C__law_common) := by
  refine cal_d A sc__law_common t__law_common (by rfl) (fun f cdv A outer s H E hr => ?_)
  have nd := sc__law_common.nd
  exact (dss_cons (ds_par (da_cons (calBi call_abs oa_abs g.n_abs (da_cons (de_var 0 (pv 0)) da_nil)) (da_cons (calBi call_abs oa_abs g.n_abs (da_cons (de_var 1 (pv 1)) da_nil)) da_nil)) (fun ta h => ps_par (i := 0) (j := 1) rfl nd rfl rfl (by decide) rfl rfl h (by rfl)))
  (dss_cons (ds_while PassesOwn.never (dt_cmp (op_neD hr.units) os_ne.op (de_var 1 (pv 1)) de_int (nomark _)) (dss_one (ds_par (da_cons (de_var 1 (pv 1)) (da_cons (de_bin op_mod os_I.op (de_var 0 (pv 0)) (de_var 1 (pv 1))) da_nil)) (fun ta h => ps_par (i := 0) (j := 1) rfl nd rfl rfl (by decide) rfl rfl h (by rfl)))))
  (dss_one (ds_ret (de_var 0 (pv 0))))))

abbrev s__law_mixed : Stmt := top 45
theorem sc__law_mixed : FnScope N__law_mixed ["dice", "items"] (defScope s__law_mixed) := ⟨rfl, rfl, rfl, by decide +kernel, rfl, by decide +kernel, by decide +kernel⟩
theorem cal__law_mixed (A : DefAt K mg "_law_mixed" s__law_mixed ["dice", "items"]) (g : Gl K mg) (h__law_roll : Cal P w K mg base 1 "_law_roll" (spB K C__law_roll)) : Cal P w K mg base 2 "_law_mixed" (spB K C__law_mixed) := by
  refine cal_b A sc__law_mixed t__law_mixed (by rfl) (fun f cdv A outer s H E hr => ?_)
  have nd := sc__law_mixed.nd
  exact (dss_cons (ds_parFF (by decide) (df_of (de_var 1 (pv 1)) rfl g.n_list) (df_lst da_nil) (fun ta h => ps_par (i := 2) (j := 3) rfl nd rfl rfl (by decide) rfl rfl h (by rfl)))
  (dss_cons (ds_while PassesOwn.never (dt_neO 2 hr.units (pv 2) (de_lst da_nil) (nomark _)) (dss_one (ds_append (i := 3) (de_popAt 2 (calL 0 h__law_roll (hr.mono (by decide)) clb_mono (pv 0) (da_cons (de_lenN 2 (pe_callB call_len_seq (by rfl) g.n_len PySem.boot_len (pa_cons (pv 2) pa_nil))) da_nil)) (fun t h => pe_bm PySem.F.plainAttrs_list PySem.F.slot_list_pop PySem.F.type_list_pop mt_popAt (pv 2) h)) (fun t h => ps_expr (pe_bm PySem.F.plainAttrs_list PySem.F.slot_list_append PySem.F.type_list_append mt_append (pv 3) h)))))
  (dss_one (ds_ret (de_var 3 (pv 3))))))

abbrev s__law_steps : Stmt := top 46
theorem sc__law_steps : FnScope N__law_steps ["dice", "a", "b", "d"] (defScope s__law_steps) := ⟨rfl, rfl, rfl, by decide +kernel, rfl, by decide +kernel, by decide +kernel⟩
theorem cal__law_steps (A : DefAt K mg "_law_steps" s__law_steps ["dice", "a", "b", "d"]) (g : Gl K mg) (h__law_roll : Cal P w K mg base 1 "_law_roll" (spB K C__law_roll)) (h__law_mixed : Cal P w K mg base 2 "_law_mixed" (spB K C__law_mixed)) : Cal P w K mg base 3 "_law_steps" (spB K C__law_steps) := by
  refine cal_b A sc__law_steps t__law_steps (by rfl) (fun f cdv A outer s H E hr => ?_)
  have nd := sc__law_steps.nd
  exact (dss_cons (ds_par (da_cons (de_tup (da_cons (de_var 1 (pv 1)) (da_cons (de_var 2 (pv 2)) da_nil))) (da_cons (de_tup (da_cons de_int (da_cons (de_var 3 (pv 3)) da_nil))) da_nil)) (fun ta h => ps_par (i := 4) (j := 5) rfl nd rfl rfl (by decide) rfl rfl h (by rfl)))
  (dss_cons (ds_for PassesOwn.never rfl (di_rng1 (da_cons (calL 0 h__law_roll (hr.mono (by decide)) clb_mono (pv 0) (da_cons de_int da_nil)) da_nil) (fun ta h => pi_range1 rfl g.n_range h)) (dg_name (pg_name (i := 6) nd rfl (Or.inl rfl))) (dss_cons (ds_set (i := 7) nd rfl (Or.inl rfl) (de_bin op_sub os_I0.op (calL 0 h__law_roll (hr.mono (by decide)) clb_mono (pv 0) (da_cons de_int da_nil)) de_int))
  (dss_one (ds_par (da_cons (de_var 5 (pv 5)) (da_cons (de_tup (da_cons (de_bin op_addA od_add (de_ix (de_var 4 (pv 4)) de_int (fun _ _ => rfl)) (de_bin op_mulW os_I.op (de_var 7 (pv 7)) (de_ix (de_var 5 (pv 5)) de_int (fun _ _ => rfl)))) (da_cons (de_bin op_addA od_add (de_ix (de_var 4 (pv 4)) de_int (fun _ _ => rfl)) (de_bin op_mulW os_I.op (de_var 7 (pv 7)) (de_ix (de_var 5 (pv 5)) de_int (fun _ _ => rfl)))) da_nil))) da_nil)) (fun ta h => ps_par (i := 4) (j := 5) rfl nd rfl rfl (by decide) rfl rfl h (by rfl))))))
  (dss_cons (ds_set (i := 8) nd rfl (Or.inl rfl) (de_bin op_addA od_add (de_bin op_addA od_add (de_lst (da_cons (de_var 4 (pv 4)) (da_cons (de_var 5 (pv 5)) da_nil))) (de_rep (df_lst (da_cons (de_tup (da_cons (de_bin op_addA od_add (de_ix (de_var 4 (pv 4)) de_int (fun _ _ => rfl)) (de_ix (de_var 5 (pv 5)) de_int (fun _ _ => rfl))) (da_cons (de_bin op_addA od_add (de_ix (de_var 4 (pv 4)) de_int (fun _ _ => rfl)) (de_ix (de_var 5 (pv 5)) de_int (fun _ _ => rfl))) da_nil))) da_nil)) (calL 0 h__law_roll (hr.mono (by decide)) clb_mono (pv 0) (da_cons de_int da_nil)))) (de_rep (df_lst (da_cons (de_tup (da_cons (de_bin op_sub os_I0.op (de_bin op_mulW os_I.op de_int (de_ix (de_var 4 (pv 4)) de_int (fun _ _ => rfl))) (de_ix (de_var 5 (pv 5)) de_int (fun _ _ => rfl))) (da_cons (de_bin op_sub os_I0.op (de_bin op_mulW os_I.op de_int (de_ix (de_var 4 (pv 4)) de_int (fun _ _ => rfl))) (de_ix (de_var 5 (pv 5)) de_int (fun _ _ => rfl))) da_nil))) da_nil)) (calL 0 h__law_roll (hr.mono (by decide)) clb_mono (pv 0) (da_cons de_int da_nil)))))
  (dss_one (ds_ret (calTy call_tuple_of oa_tuple g.n_tuple (da_cons (calL 0 h__law_mixed (hr.mono (by decide)) clb_mono (pv 0) (da_cons (de_var 8 (pv 8)) da_nil)) da_nil)))))))

abbrev s__law_is_in : Stmt := top 47
theorem sc__law_is_in : FnScope N__law_is_in ["point", "pair"] (defScope s__law_is_in) := ⟨rfl, rfl, rfl, by decide +kernel, rfl, by decide +kernel, by decide +kernel⟩
theorem cal__law_is_in (A : DefAt K mg "_law_is_in" s__law_is_in ["point", "pair"]) (g : Gl K mg)  : Cal P w K mg base 1 "_law_is_in" (spD K C__law_is_in) := by
  refine cal_d A sc__law_is_in t__law_is_in (by rfl) (fun f cdv A outer s H E hr => ?_)
  have nd := sc__law_is_in.nd
  exact (dss_cons (ds_asg (de_var 1 (pv 1)) (dg_tup rfl (dgs_cons (dg_tup rfl (dgs_cons (dg_name (pg_name (i := 2) nd rfl (Or.inl rfl))) (dgs_cons (dg_name (pg_name (i := 3) nd rfl (Or.inl rfl))) dgs_nil))) (dgs_cons (dg_tup rfl (dgs_cons (dg_name (pg_name (i := 4) nd rfl (Or.inl rfl))) (dgs_cons (dg_name (pg_name (i := 5) nd rfl (Or.inl rfl))) dgs_nil))) dgs_nil))))
  (dss_one (ds_ret (de_and (de_cmp (op_eqD hr.units) os_eq.op (de_bin op_mod os_I.op (de_ix (de_var 0 (pv 0)) de_int (fun _ _ => rfl)) (de_var 2 (pv 2))) de_int (nomark _)) (de_one (de_cmp (op_eqD hr.units) os_eq.op (de_bin op_mod os_I.op (de_bin op_sub os_I0.op (de_ix (de_var 0 (pv 0)) de_int (fun _ _ => rfl)) (de_bin op_mulW os_I.op (de_bin op_fdivW os_I.op (de_ix (de_var 0 (pv 0)) de_int (fun _ _ => rfl)) (de_var 2 (pv 2))) (de_var 3 (pv 3)))) (de_var 5 (pv 5))) de_int (nomark _)))))))

abbrev s__law_index : Stmt := top 48
theorem sc__law_index : FnScope N__law_index ["steps"] (defScope s__law_index) := ⟨rfl, rfl, rfl, by decide +kernel, rfl, by decide +kernel, by decide +kernel⟩
theorem cal__law_index (A : DefAt K mg "_law_index" s__law_index ["steps"]) (g : Gl K mg) (h__law_common : Cal P w K mg base 1 "_law_common" (spD K C__law_common)) : Cal P w K mg base 2 "_law_index" (spD K C__law_index) := by
  refine cal_d A sc__law_index t__law_index (by rfl) (fun f cdv A outer s H E hr => ?_)
  have nd := sc__law_index.nd
  exact (dss_cons (ds_set (i := 1) nd rfl (Or.inl rfl) de_int)
  (dss_cons (ds_for PassesOwn.never rfl (di_enum (de_var 0 (pv 0)) rfl g.n_enumerate) (dg_tup rfl (dgs_cons (dg_name (pg_name (i := 2) nd rfl (Or.inl rfl))) (dgs_cons (dg_name (pg_name (i := 3) nd rfl (Or.inl rfl))) dgs_nil))) (dss_one (ds_for PassesOwn.never rfl (di_tup (de_slice (de_var 0 (pv 0)) do_no (do_some (de_var 2 (pv 2))))) (dg_name (pg_name (i := 4) nd rfl (Or.inl rfl))) (dss_one (ds_set (i := 1) nd rfl (Or.inl rfl) (calD h__law_common (hr.mono (by decide)) cld_mono (da_cons (de_var 1 (pv 1)) (da_cons (de_bin op_sub os_I0.op (de_bin op_mulW os_I.op (de_ix (de_var 3 (pv 3)) de_int (fun _ _ => rfl)) (de_ix (de_var 4 (pv 4)) de_int (fun _ _ => rfl))) (de_bin op_mulW os_I.op (de_ix (de_var 3 (pv 3)) de_int (fun _ _ => rfl)) (de_ix (de_var 4 (pv 4)) de_int (fun _ _ => rfl)))) da_nil))))))))
  (dss_one (ds_ret (de_var 1 (pv 1))))))

abbrev s__law_drawn : Stmt := top 49
theorem sc__law_drawn : FnScope N__law_drawn ["dice", "most"] (defScope s__law_drawn) := ⟨rfl, rfl, rfl, by decide +kernel, rfl, by decide +kernel, by decide +kernel⟩
theorem cal__law_drawn (A : DefAt K mg "_law_drawn" s__law_drawn ["dice", "most"]) (g : Gl K mg) (h__law_roll : Cal P w K mg base 1 "_law_roll" (spB K C__law_roll)) : Cal P w K mg base 2 "_law_drawn" (spB K C__law_drawn) := by
  refine cal_b A sc__law_drawn t__law_drawn (by rfl) (fun f cdv A outer s H E hr => ?_)
  have nd := sc__law_drawn.nd
  exact (dss_cons (ds_set (i := 2) nd rfl (Or.inl rfl) (de_bin op_addA od_add de_int (calL 0 h__law_roll (hr.mono (by decide)) clb_mono (pv 0) (da_cons (de_var 1 (pv 1)) da_nil))))
  (dss_one (ds_ret (de_tup (da_cons (de_tup (da_cons (de_bin op_addA od_add de_int (calL 0 h__law_roll (hr.mono (by decide)) clb_mono (pv 0) (da_cons (de_var 1 (pv 1)) da_nil))) (da_cons (calL 0 h__law_roll (hr.mono (by decide)) clb_mono (pv 0) (da_cons (de_var 2 (pv 2)) da_nil)) da_nil))) (da_cons (de_tup (da_cons de_int (da_cons (de_var 2 (pv 2)) da_nil))) da_nil))))))

abbrev s__law_both_right : Stmt := top 50
theorem sc__law_both_right : FnScope N__law_both_right ["dice"] (defScope s__law_both_right) := ⟨rfl, rfl, rfl, by decide +kernel, rfl, by decide +kernel, by decide +kernel⟩
theorem cal__law_both_right (A : DefAt K mg "_law_both_right" s__law_both_right ["dice"]) (g : Gl K mg) (h__law_drawn : Cal P w K mg base 2 "_law_drawn" (spB K C__law_drawn)) (h__law_roll : Cal P w K mg base 1 "_law_roll" (spB K C__law_roll)) (h__law_steps : Cal P w K mg base 3 "_law_steps" (spB K C__law_steps)) (h_shared_grid : Cal P w K mg base 7 "shared_grid" (spD K C_shared_grid)) (h_joint_grid : Cal P w K mg base 7 "joint_grid" (spD K C_joint_grid)) (h_grid_index : Cal P w K mg base 7 "grid_index" (spD K C_grid_index)) (h__law_index : Cal P w K mg base 2 "_law_index" (spD K C__law_index)) (h_grid_pair : Cal P w K mg base 6 "grid_pair" (spD K C_grid_pair)) (h__law_is_in : Cal P w K mg base 1 "_law_is_in" (spD K C__law_is_in)) (h_is_in_grid : Cal P w K mg base 7 "is_in_grid" (spD K C_is_in_grid)) (h_are_same : Cal P w K mg base 7 "are_same" (spD K C_are_same)) (h_lies_within : Cal P w K mg base 7 "lies_within" (spD K C_lies_within)) (h__law_common : Cal P w K mg base 1 "_law_common" (spD K C__law_common)) : Cal P w K mg base 8 "_law_both_right" (spB K C__law_both_right) := by
  refine cal_b A sc__law_both_right t__law_both_right (by rfl) (fun f cdv A outer s H E hr => ?_)
  have nd := sc__law_both_right.nd
  exact (dss_cons (ds_set (i := 1) nd rfl (Or.inl rfl) (calL 0 h__law_drawn (hr.mono (by decide)) clb_mono (pv 0) (da_cons de_int da_nil)))
  (dss_cons (ds_set (i := 2) nd rfl (Or.inl rfl) (calL 0 h__law_drawn (hr.mono (by decide)) clb_mono (pv 0) (da_cons de_int da_nil)))
  (dss_cons (ds_if (dt_cmp (op_eqD hr.units) os_eq.op (calL 0 h__law_roll (hr.mono (by decide)) clb_mono (pv 0) (da_cons de_int da_nil)) de_int (nomark _)) (dss_cons (ds_asg (de_var 1 (pv 1)) (dg_tup rfl (dgs_cons (dg_tup rfl (dgs_cons (dg_name (pg_name (i := 3) nd rfl (Or.inl rfl))) (dgs_cons (dg_name (pg_name (i := 4) nd rfl (Or.inl rfl))) dgs_nil))) (dgs_cons (dg_tup rfl (dgs_cons (dg_name (pg_name (i := 5) nd rfl (Or.inl rfl))) (dgs_cons (dg_name (pg_name (i := 6) nd rfl (Or.inl rfl))) dgs_nil))) dgs_nil))))
  (dss_cons (ds_par3 (da_cons (de_bin op_addA od_add de_int (calL 0 h__law_roll (hr.mono (by decide)) clb_mono (pv 0) (da_cons de_int da_nil))) (da_cons (calL 0 h__law_roll (hr.mono (by decide)) clb_mono (pv 0) (da_cons de_int da_nil)) (da_cons (de_bin op_addA od_add de_int (calL 0 h__law_roll (hr.mono (by decide)) clb_mono (pv 0) (da_cons de_int da_nil))) da_nil))) (fun ta h => ps_par3 (i := 7) (j := 8) (l := 9) rfl nd rfl rfl rfl (by decide) (by decide) (by decide) rfl rfl rfl h (by rfl)))
  (dss_one (ds_set (i := 2) nd rfl (Or.inl rfl) (de_tup (da_cons (de_tup (da_cons (de_bin op_mulW os_I.op (de_var 7 (pv 7)) (de_var 3 (pv 3))) (da_cons (de_bin op_addA od_add (de_bin op_mulW os_I.op (de_var 7 (pv 7)) (de_var 4 (pv 4))) (de_bin op_mulW os_I.op (de_var 8 (pv 8)) (de_var 6 (pv 6)))) da_nil))) (da_cons (de_tup (da_cons de_int (da_cons (de_bin op_mulW os_I.op (de_var 9 (pv 9)) (de_var 6 (pv 6))) da_nil))) da_nil))))))) dss_nil)
  (dss_cons (ds_asg (de_tup (da_cons (calL 0 h__law_steps (hr.mono (by decide)) clb_mono (pv 0) (da_cons (de_ix (de_ix (de_var 1 (pv 1)) de_int (fun _ _ => rfl)) de_int (fun _ _ => rfl)) (da_cons (de_ix (de_ix (de_var 1 (pv 1)) de_int (fun _ _ => rfl)) de_int (fun _ _ => rfl)) (da_cons (de_ix (de_ix (de_var 1 (pv 1)) de_int (fun _ _ => rfl)) de_int (fun _ _ => rfl)) da_nil)))) (da_cons (calL 0 h__law_steps (hr.mono (by decide)) clb_mono (pv 0) (da_cons (de_ix (de_ix (de_var 2 (pv 2)) de_int (fun _ _ => rfl)) de_int (fun _ _ => rfl)) (da_cons (de_ix (de_ix (de_var 2 (pv 2)) de_int (fun _ _ => rfl)) de_int (fun _ _ => rfl)) (da_cons (de_ix (de_ix (de_var 2 (pv 2)) de_int (fun _ _ => rfl)) de_int (fun _ _ => rfl)) da_nil)))) da_nil))) (dg_tup rfl (dgs_cons (dg_name (pg_name (i := 10) nd rfl (Or.inr rfl))) (dgs_cons (dg_name (pg_name (i := 11) nd rfl (Or.inr rfl))) dgs_nil))))
  (dss_cons (ds_asg (de_tup (da_cons (calD h_joint_grid (hr.mono (by decide)) cld_mono (da_cons (de_var 10 (pv 10)) (da_cons (de_var 11 (pv 11)) da_nil))) (da_cons (calD h_shared_grid (hr.mono (by decide)) cld_mono (da_cons (de_var 10 (pv 10)) (da_cons (de_var 11 (pv 11)) da_nil))) da_nil))) (dg_tup rfl (dgs_cons (dg_name (pg_name (i := 12) nd rfl (Or.inr rfl))) (dgs_cons (dg_name (pg_name (i := 13) nd rfl (Or.inl rfl))) dgs_nil))))
  (dss_cons (ds_par (da_cons (de_bin op_mulW os_I.op (de_ix (de_ix (de_var 1 (pv 1)) de_int (fun _ _ => rfl)) de_int (fun _ _ => rfl)) (de_ix (de_ix (de_var 1 (pv 1)) de_int (fun _ _ => rfl)) de_int (fun _ _ => rfl))) (da_cons (de_bin op_mulW os_I.op (de_ix (de_ix (de_var 2 (pv 2)) de_int (fun _ _ => rfl)) de_int (fun _ _ => rfl)) (de_ix (de_ix (de_var 2 (pv 2)) de_int (fun _ _ => rfl)) de_int (fun _ _ => rfl))) da_nil)) (fun ta h => ps_par (i := 14) (j := 15) rfl nd rfl rfl (by decide) rfl rfl h (by rfl)))
  (dss_cons (ds_if (DW.te (dw_or (dt_cmp (op_neD hr.units) os_ne.op (calD h_grid_index (hr.mono (by decide)) cld_mono (da_cons (de_var 12 (pv 12)) da_nil)) (calD h__law_index (hr.mono (by decide)) cld_mono (da_cons (de_bin op_addA od_add (de_var 10 (pv 10)) (de_var 11 (pv 11))) da_nil)) (nomark _)) (dw_or (dt_cmp (op_neD hr.units) os_ne.op (de_bin op_mulW os_I.op (calD h_grid_index (hr.mono (by decide)) cld_mono (da_cons (de_var 12 (pv 12)) da_nil)) (calD h_grid_index (hr.mono (by decide)) cld_mono (da_cons (de_var 13 (pv 13)) da_nil))) (de_bin op_mulW os_I.op (de_var 14 (pv 14)) (de_var 15 (pv 15))) (nomark _)) (dw_or1 (dt_cmp (op_neD hr.units) os_ne.op (de_var 12 (pv 12)) (calD h_grid_pair (hr.mono (by decide)) cld_mono (da_cons (de_bin op_addA od_add (de_var 10 (pv 10)) (de_var 11 (pv 11))) da_nil)) (nomark _)))))) (dss_one (ds_ret de_bl)) dss_nil)
  (dss_cons (ds_if (DW.te (dw_or (dt_cmp (op_neD hr.units) os_ne.op (calD h_joint_grid (hr.mono (by decide)) cld_mono (da_cons (de_var 11 (pv 11)) (da_cons (de_var 10 (pv 10)) da_nil))) (de_var 12 (pv 12)) (nomark _)) (dw_or (dt_cmp (op_neD hr.units) os_ne.op (calD h_shared_grid (hr.mono (by decide)) cld_mono (da_cons (de_var 11 (pv 11)) (da_cons (de_var 10 (pv 10)) da_nil))) (de_var 13 (pv 13)) (nomark _)) (dw_or (dt_cmp (op_neD hr.units) os_ne.op (calD h_joint_grid (hr.mono (by decide)) cld_mono (da_cons (de_var 10 (pv 10)) (da_cons (de_var 10 (pv 10)) da_nil))) (calD h_grid_pair (hr.mono (by decide)) cld_mono (da_cons (de_var 10 (pv 10)) da_nil)) (nomark _)) (dw_or1 (dt_cmp (op_neD hr.units) os_ne.op (calD h_shared_grid (hr.mono (by decide)) cld_mono (da_cons (de_var 11 (pv 11)) (da_cons (de_var 11 (pv 11)) da_nil))) (calD h_grid_pair (hr.mono (by decide)) cld_mono (da_cons (de_var 11 (pv 11)) da_nil)) (nomark _))))))) (dss_one (ds_ret de_bl)) dss_nil)
  (dss_cons (ds_for PassesOwn.never rfl (di_rng2 (da_cons (de_neg de_int) (da_cons de_int da_nil)) (fun ta h => pi_range2 rfl g.n_range h)) (dg_name (pg_name (i := 16) nd rfl (Or.inl rfl))) (dss_one (ds_for PassesOwn.never rfl (di_rng2 (da_cons (de_neg de_int) (da_cons de_int da_nil)) (fun ta h => pi_range2 rfl g.n_range h)) (dg_name (pg_name (i := 17) nd rfl (Or.inl rfl))) (dss_one (ds_if (dt_cmp (op_neD hr.units) os_ne.op (calD h__law_is_in (hr.mono (by decide)) cld_mono (da_cons (de_tup (da_cons (de_var 16 (pv 16)) (da_cons (de_var 17 (pv 17)) da_nil))) (da_cons (de_var 13 (pv 13)) da_nil))) (de_and (calD h__law_is_in (hr.mono (by decide)) cld_mono (da_cons (de_tup (da_cons (de_var 16 (pv 16)) (da_cons (de_var 17 (pv 17)) da_nil))) (da_cons (de_var 1 (pv 1)) da_nil))) (de_one (calD h__law_is_in (hr.mono (by decide)) cld_mono (da_cons (de_tup (da_cons (de_var 16 (pv 16)) (da_cons (de_var 17 (pv 17)) da_nil))) (da_cons (de_var 2 (pv 2)) da_nil))))) (nomark _)) (dss_one (ds_ret de_bl)) dss_nil)))))
  (dss_cons (ds_if (DW.te (dw_or (dt_cmp (op_neD hr.units) os_ne.op (de_frz (df_comp (own := [("step", 18)]) rfl nd (di_tup (de_bin op_addA od_add (de_var 10 (pv 10)) (de_var 11 (pv 11)))) (blkOk_by (N := N__law_both_right) (sc := defScope s__law_both_right) (by decide +kernel)) (fun _ _ _ _ _ => (pg_name (i := 18) nd rfl (Or.inl rfl))) (tg_name (by decide)) (fun _ _ _ _ _ => (dts_one (dt_not (dt_val (calD h_is_in_grid (hr.mono (by decide)) cld_mono (da_cons (de_var 12 (pv 12)) (da_cons (de_var 18 (pv 18)) da_nil))))))) (fun _ _ _ _ _ => (de_var 18 (pv 18))))) (de_lst da_nil) (nomark _)) (dw_or1 (dt_cmp (op_neD hr.units) os_ne.op (de_frz (df_comp (own := [("step", 18)]) rfl nd (di_tup (de_var 13 (pv 13))) (blkOk_by (N := N__law_both_right) (sc := defScope s__law_both_right) (by decide +kernel)) (fun _ _ _ _ _ => (pg_name (i := 18) nd rfl (Or.inl rfl))) (tg_name (by decide)) (fun _ _ _ _ _ => (dts_one (DW.te (dw_or (dt_not (dt_val (calD h_is_in_grid (hr.mono (by decide)) cld_mono (da_cons (de_var 10 (pv 10)) (da_cons (de_var 18 (pv 18)) da_nil))))) (dw_or1 (dt_not (dt_val (calD h_is_in_grid (hr.mono (by decide)) cld_mono (da_cons (de_var 11 (pv 11)) (da_cons (de_var 18 (pv 18)) da_nil)))))))))) (fun _ _ _ _ _ => (de_var 18 (pv 18))))) (de_lst da_nil) (nomark _))))) (dss_one (ds_ret de_bl)) dss_nil)
  (dss_cons (ds_set (i := 19) nd rfl (Or.inl rfl) (de_cmp (op_eqD hr.units) os_eq.op (de_frz (df_comp (own := [("step", 18)]) rfl nd (di_tup (de_var 11 (pv 11))) (blkOk_by (N := N__law_both_right) (sc := defScope s__law_both_right) (by decide +kernel)) (fun _ _ _ _ _ => (pg_name (i := 18) nd rfl (Or.inl rfl))) (tg_name (by decide)) (fun _ _ _ _ _ => (dts_one (dt_not (dt_val (calD h_is_in_grid (hr.mono (by decide)) cld_mono (da_cons (de_var 10 (pv 10)) (da_cons (de_var 18 (pv 18)) da_nil))))))) (fun _ _ _ _ _ => (de_var 18 (pv 18))))) (de_lst da_nil) (nomark _)))
  (dss_cons (ds_set (i := 20) nd rfl (Or.inl rfl) (de_lst (da_cons (calD h_lies_within (hr.mono (by decide)) cld_mono (da_cons (de_var 11 (pv 11)) (da_cons (de_var 10 (pv 10)) da_nil))) (da_cons (de_cmp (op_eqD hr.units) os_eq.op (de_var 12 (pv 12)) (calD h_grid_pair (hr.mono (by decide)) cld_mono (da_cons (de_var 10 (pv 10)) da_nil)) (nomark _)) (da_cons (de_cmp (op_eqD hr.units) os_eq.op (de_var 13 (pv 13)) (calD h_grid_pair (hr.mono (by decide)) cld_mono (da_cons (de_var 11 (pv 11)) da_nil)) (nomark _)) (da_cons (calD h_are_same (hr.mono (by decide)) cld_mono (da_cons (de_var 12 (pv 12)) (da_cons (de_var 10 (pv 10)) da_nil))) da_nil))))))
  (dss_cons (ds_if (DW.te (dw_or (dt_cmp (op_neD hr.units) os_ne.op (de_var 20 (pv 20)) (de_rep (df_lst (da_cons (de_var 19 (pv 19)) da_nil)) de_int) (nomark _)) (dw_or (DW.te (dw_and (dt_tru (de_var 19 (pv 19))) (dw_and1 (dt_cmp (op_neD hr.units) os_ne.op (de_bin op_mod os_I.op (de_var 15 (pv 15)) (de_var 14 (pv 14))) de_int (nomark _))))) (dw_or1 (dt_cmp (op_neD hr.units) os_ne.op (calD h_are_same (hr.mono (by decide)) cld_mono (da_cons (de_var 10 (pv 10)) (da_cons (de_var 11 (pv 11)) da_nil))) (de_and (de_var 19 (pv 19)) (de_one (de_cmp (op_eqD hr.units) os_eq.op (de_var 14 (pv 14)) (de_var 15 (pv 15)) (nomark _)))) (nomark _)))))) (dss_one (ds_ret de_bl)) dss_nil)
  (dss_cons (ds_if (DW.te (dw_or (dt_cmp op_notBl os_notB.op (calD h_lies_within (hr.mono (by decide)) cld_mono (da_cons (de_var 13 (pv 13)) (da_cons (de_var 12 (pv 12)) da_nil))) de_bl (nomark _)) (dw_or (dt_cmp op_notBl os_notB.op (calD h_lies_within (hr.mono (by decide)) cld_mono (da_cons (de_var 13 (pv 13)) (da_cons (de_var 10 (pv 10)) da_nil))) de_bl (nomark _)) (dw_or1 (dt_cmp op_notBl os_notB.op (calD h_lies_within (hr.mono (by decide)) cld_mono (da_cons (de_var 10 (pv 10)) (da_cons (de_var 12 (pv 12)) da_nil))) de_bl (nomark _)))))) (dss_one (ds_ret de_bl)) dss_nil)
  (dss_one (ds_ret (de_or (de_cmp op_gt os_B0.op (calD h__law_common (hr.mono (by decide)) cld_mono (da_cons (de_var 14 (pv 14)) (da_cons (de_var 15 (pv 15)) da_nil))) de_int (nomark _)) (de_one (de_and (de_cmp (op_eqD hr.units) os_eq.op (de_var 12 (pv 12)) (de_tup (da_cons (de_tup (da_cons de_int (da_cons de_int da_nil))) (da_cons (de_tup (da_cons de_int (da_cons de_int da_nil))) da_nil))) (nomark _)) (de_one (de_cmp (op_eqD hr.units) os_eq.op (calD h_grid_index (hr.mono (by decide)) cld_mono (da_cons (de_var 13 (pv 13)) da_nil)) (de_bin op_mulW os_I.op (de_var 14 (pv 14)) (de_var 15 (pv 15))) (nomark _))))))))))))))))))))))

abbrev s__law_three_right : Stmt := top 51
theorem sc__law_three_right : FnScope N__law_three_right ["dice"] (defScope s__law_three_right) := ⟨rfl, rfl, rfl, by decide +kernel, rfl, by decide +kernel, by decide +kernel⟩
theorem cal__law_three_right (A : DefAt K mg "_law_three_right" s__law_three_right ["dice"]) (g : Gl K mg) (h__law_drawn : Cal P w K mg base 2 "_law_drawn" (spB K C__law_drawn)) (h_joint_grid : Cal P w K mg base 7 "joint_grid" (spD K C_joint_grid)) (h_shared_grid : Cal P w K mg base 7 "shared_grid" (spD K C_shared_grid)) (h__law_roll : Cal P w K mg base 1 "_law_roll" (spB K C__law_roll)) (h__law_common : Cal P w K mg base 1 "_law_common" (spD K C__law_common)) (h_grid_index : Cal P w K mg base 7 "grid_index" (spD K C_grid_index)) (h_lies_within : Cal P w K mg base 7 "lies_within" (spD K C_lies_within)) (h_grid_pair : Cal P w K mg base 6 "grid_pair" (spD K C_grid_pair)) : Cal P w K mg base 8 "_law_three_right" (spB K C__law_three_right) := by
  refine cal_b A sc__law_three_right t__law_three_right (by rfl) (fun f cdv A outer s H E hr => ?_)
  have nd := sc__law_three_right.nd
  exact (dss_cons (ds_asg (de_frz (df_comp (own := [("turn", 4)]) rfl nd (di_rng1 (da_cons de_int da_nil) (fun ta h => pi_range1 rfl g.n_range h)) (blkOk_by (N := N__law_three_right) (sc := defScope s__law_three_right) (by decide +kernel)) (fun _ _ _ _ _ => (pg_name (i := 4) nd rfl (Or.inl rfl))) (tg_name (by decide)) (fun _ _ _ _ _ => dts_nil) (fun _ _ _ _ _ => (calL 0 h__law_drawn (hr.mono (by decide)) clb_mono (pv 0) (da_cons de_int da_nil))))) (dg_lst rfl (dgs_cons (dg_name (pg_name (i := 1) nd rfl (Or.inl rfl))) (dgs_cons (dg_name (pg_name (i := 2) nd rfl (Or.inl rfl))) (dgs_cons (dg_name (pg_name (i := 3) nd rfl (Or.inl rfl))) dgs_nil)))))
  (dss_cons (ds_if (DW.te (dw_or (dt_cmp (op_neD hr.units) os_ne.op (calD h_joint_grid (hr.mono (by decide)) cld_mono (da_cons (calD h_joint_grid (hr.mono (by decide)) cld_mono (da_cons (de_var 1 (pv 1)) (da_cons (de_var 2 (pv 2)) da_nil))) (da_cons (de_var 3 (pv 3)) da_nil))) (calD h_joint_grid (hr.mono (by decide)) cld_mono (da_cons (de_var 1 (pv 1)) (da_cons (calD h_joint_grid (hr.mono (by decide)) cld_mono (da_cons (de_var 2 (pv 2)) (da_cons (de_var 3 (pv 3)) da_nil))) da_nil))) (nomark _)) (dw_or1 (dt_cmp (op_neD hr.units) os_ne.op (calD h_shared_grid (hr.mono (by decide)) cld_mono (da_cons (calD h_shared_grid (hr.mono (by decide)) cld_mono (da_cons (de_var 1 (pv 1)) (da_cons (de_var 2 (pv 2)) da_nil))) (da_cons (de_var 3 (pv 3)) da_nil))) (calD h_shared_grid (hr.mono (by decide)) cld_mono (da_cons (de_var 1 (pv 1)) (da_cons (calD h_shared_grid (hr.mono (by decide)) cld_mono (da_cons (de_var 2 (pv 2)) (da_cons (de_var 3 (pv 3)) da_nil))) da_nil))) (nomark _))))) (dss_one (ds_ret de_bl)) dss_nil)
  (dss_cons (ds_set (i := 5) nd rfl (Or.inl rfl) (calD h_shared_grid (hr.mono (by decide)) cld_mono (da_cons (de_var 1 (pv 1)) (da_cons (de_var 3 (pv 3)) da_nil))))
  (dss_cons (ds_if (dt_cmp (op_neD hr.units) os_ne.op (calD h_joint_grid (hr.mono (by decide)) cld_mono (da_cons (de_var 5 (pv 5)) (da_cons (calD h_shared_grid (hr.mono (by decide)) cld_mono (da_cons (de_var 2 (pv 2)) (da_cons (de_var 3 (pv 3)) da_nil))) da_nil))) (calD h_shared_grid (hr.mono (by decide)) cld_mono (da_cons (calD h_joint_grid (hr.mono (by decide)) cld_mono (da_cons (de_var 5 (pv 5)) (da_cons (de_var 2 (pv 2)) da_nil))) (da_cons (de_var 3 (pv 3)) da_nil))) (nomark _)) (dss_one (ds_ret de_bl)) dss_nil)
  (dss_cons (ds_par (da_cons (de_bin op_addA od_add de_int (calL 0 h__law_roll (hr.mono (by decide)) clb_mono (pv 0) (da_cons de_int da_nil))) (da_cons (de_bin op_addA od_add de_int (calL 0 h__law_roll (hr.mono (by decide)) clb_mono (pv 0) (da_cons de_int da_nil))) da_nil)) (fun ta h => ps_par (i := 6) (j := 7) rfl nd rfl rfl (by decide) rfl rfl h (by rfl)))
  (dss_cons (ds_asg (de_var 1 (pv 1)) (dg_tup rfl (dgs_cons (dg_tup rfl (dgs_cons (dg_name (pg_name (i := 8) nd rfl (Or.inl rfl))) (dgs_cons (dg_name (pg_name (i := 9) nd rfl (Or.inl rfl))) dgs_nil))) (dgs_cons (dg_tup rfl (dgs_cons (dg_name (pg_name (i := 10) nd rfl (Or.inl rfl))) (dgs_cons (dg_name (pg_name (i := 11) nd rfl (Or.inl rfl))) dgs_nil))) dgs_nil))))
  (dss_cons (ds_par (da_cons (de_tup (da_cons (de_tup (da_cons (de_bin op_mulW os_I.op (de_var 6 (pv 6)) (de_var 8 (pv 8))) (da_cons (de_bin op_mulW os_I.op (de_var 6 (pv 6)) (de_var 9 (pv 9))) da_nil))) (da_cons (de_tup (da_cons de_int (da_cons (de_bin op_mulW os_I.op (de_var 6 (pv 6)) (de_var 11 (pv 11))) da_nil))) da_nil))) (da_cons (de_tup (da_cons (de_tup (da_cons (de_bin op_mulW os_I.op (de_var 7 (pv 7)) (de_var 8 (pv 8))) (da_cons (de_bin op_mulW os_I.op (de_var 7 (pv 7)) (de_var 9 (pv 9))) da_nil))) (da_cons (de_tup (da_cons de_int (da_cons (de_bin op_mulW os_I.op (de_var 7 (pv 7)) (de_var 11 (pv 11))) da_nil))) da_nil))) da_nil)) (fun ta h => ps_par (i := 12) (j := 13) rfl nd rfl rfl (by decide) rfl rfl h (by rfl)))
  (dss_cons (ds_set (i := 14) nd rfl (Or.inl rfl) (calD h__law_common (hr.mono (by decide)) cld_mono (da_cons (de_var 6 (pv 6)) (da_cons (de_var 7 (pv 7)) da_nil))))
  (dss_cons (ds_set (i := 15) nd rfl (Or.inl rfl) (de_bin op_fdivW os_I.op (de_bin op_mulW os_I.op (de_var 6 (pv 6)) (de_var 7 (pv 7))) (de_var 14 (pv 14))))
  (dss_cons (ds_if (DW.te (dw_or (dt_cmp (op_neD hr.units) os_ne.op (calD h_grid_index (hr.mono (by decide)) cld_mono (da_cons (de_var 12 (pv 12)) da_nil)) (de_bin op_mulW os_I.op (de_bin op_mulW os_I.op (de_bin op_mulW os_I.op (de_var 6 (pv 6)) (de_var 6 (pv 6))) (de_var 8 (pv 8))) (de_var 11 (pv 11))) (nomark _)) (dw_or (dt_cmp op_notBl os_notB.op (calD h_lies_within (hr.mono (by decide)) cld_mono (da_cons (de_var 12 (pv 12)) (da_cons (de_var 1 (pv 1)) da_nil))) de_bl (nomark _)) (dw_or1 (dt_cmp (op_neD hr.units) os_ne.op (calD h_lies_within (hr.mono (by decide)) cld_mono (da_cons (de_var 1 (pv 1)) (da_cons (de_var 12 (pv 12)) da_nil))) (de_cmp (op_eqD hr.units) os_eq.op (de_var 6 (pv 6)) de_int (nomark _)) (nomark _)))))) (dss_one (ds_ret de_bl)) dss_nil)
  (dss_one (ds_ret (de_and (de_cmp (op_eqD hr.units) os_eq.op (calD h_joint_grid (hr.mono (by decide)) cld_mono (da_cons (de_var 12 (pv 12)) (da_cons (de_var 13 (pv 13)) da_nil))) (calD h_grid_pair (hr.mono (by decide)) cld_mono (da_cons (de_tup (da_cons (de_tup (da_cons (de_bin op_mulW os_I.op (de_var 14 (pv 14)) (de_var 8 (pv 8))) (da_cons (de_bin op_mulW os_I.op (de_var 14 (pv 14)) (de_var 9 (pv 9))) da_nil))) (da_cons (de_tup (da_cons de_int (da_cons (de_bin op_mulW os_I.op (de_var 14 (pv 14)) (de_var 11 (pv 11))) da_nil))) da_nil))) da_nil)) (nomark _)) (de_one (de_cmp (op_eqD hr.units) os_eq.op (calD h_shared_grid (hr.mono (by decide)) cld_mono (da_cons (de_var 12 (pv 12)) (da_cons (de_var 13 (pv 13)) da_nil))) (calD h_grid_pair (hr.mono (by decide)) cld_mono (da_cons (de_tup (da_cons (de_tup (da_cons (de_bin op_mulW os_I.op (de_var 15 (pv 15)) (de_var 8 (pv 8))) (da_cons (de_bin op_mulW os_I.op (de_var 15 (pv 15)) (de_var 9 (pv 9))) da_nil))) (da_cons (de_tup (da_cons de_int (da_cons (de_bin op_mulW os_I.op (de_var 15 (pv 15)) (de_var 11 (pv 11))) da_nil))) da_nil))) da_nil)) (nomark _))))))))))))))))

abbrev s_law : Stmt := top 52
theorem sc_law : FnScope N_law ["script"] (defScope s_law) := ⟨rfl, rfl, rfl, by decide +kernel, rfl, by decide +kernel, by decide +kernel⟩
theorem law_law (A : LawAt K mg "law" s_law "script") (g : Gl K mg) (h0__law_dice : ∀ base, Cal P w K mg base 1 "_law_dice" (spF K C__law_dice)) (h0__law_both_right : ∀ base, Cal P w K mg base 8 "_law_both_right" (spB K C__law_both_right)) (h0__law_three_right : ∀ base, Cal P w K mg base 8 "_law_three_right" (spB K C__law_three_right)) (h0_joint_grid : ∀ base, Cal P w K mg base 7 "joint_grid" (spD K C_joint_grid)) (h0_shared_grid : ∀ base, Cal P w K mg base 7 "shared_grid" (spD K C_shared_grid)) (h0_lies_within : ∀ base, Cal P w K mg base 7 "lies_within" (spD K C_lies_within)) : ∃ f fd, mg "law" = some (.ref f) ∧ (∀ (s : Shared) (u : Value), BindsTo s fd ⟨[u], []⟩ [("script", u)]) ∧ ∀ base, FnOk P w K mg base CX0 9 f fd ["script"] (spD K C_law) := by
  refine law_d A sc_law t_law (fun base f cdv A outer s H E hr => ?_)
  have nd := sc_law.nd
  have h__law_dice := h0__law_dice base
  have h__law_both_right := h0__law_both_right base
  have h__law_three_right := h0__law_three_right base
  have h_joint_grid := h0_joint_grid base
  have h_shared_grid := h0_shared_grid base
  have h_lies_within := h0_lies_within base
  exact (dss_cons (ds_for PassesOwn.never rfl (di_rng1 (da_cons (calBi (call_max2 rfl) oa_max g.n_max (da_cons de_int (da_cons (calBi (call_min2 rfl) oa_min g.n_min (da_cons de_int (da_cons (calBi call_len_seq oa_len g.n_len (da_cons (de_var 0 (pv 0)) da_nil)) da_nil))) da_nil))) da_nil) (fun ta h => pi_range1 rfl g.n_range h)) (dg_name (pg_name (i := 1) nd rfl (Or.inl rfl))) (dss_cons (ds_setF (i := 2) nd rfl (Or.inl rfl) (calF h__law_dice (hr.mono (by decide)) clf_mono (da_cons (de_var 0 (pv 0)) (da_cons (de_var 1 (pv 1)) da_nil))))
  (dss_one (ds_for PassesOwn.never rfl (di_rng1 (da_cons de_int da_nil) (fun ta h => pi_range1 rfl g.n_range h)) (dg_name (pg_name (i := 3) nd rfl (Or.inl rfl))) (dss_one (ds_if (DW.te (dw_or (dt_not (dt_val (calL 2 h__law_both_right (hr.mono (by decide)) clb_mono (pv 2) da_nil))) (dw_or1 (dt_not (dt_val (calL 2 h__law_three_right (hr.mono (by decide)) clb_mono (pv 2) da_nil)))))) (dss_one (ds_ret de_bl)) dss_nil))))))
  (dss_cons (ds_asg (de_tup (da_cons (de_tup (da_cons (de_tup (da_cons de_int (da_cons de_int da_nil))) (da_cons (de_tup (da_cons de_int (da_cons de_int da_nil))) (da_cons (de_tup (da_cons de_int (da_cons de_int da_nil))) da_nil)))) (da_cons (de_tup (da_cons (de_tup (da_cons de_int (da_cons de_int da_nil))) (da_cons (de_tup (da_cons de_int (da_cons de_int da_nil))) da_nil))) da_nil))) (dg_tup rfl (dgs_cons (dg_name (pg_name (i := 4) nd rfl (Or.inl rfl))) (dgs_cons (dg_name (pg_name (i := 5) nd rfl (Or.inl rfl))) dgs_nil))))
  (dss_one (ds_ret (de_and (de_cmp (op_eqD hr.units) os_eq.op (calD h_joint_grid (hr.mono (by decide)) cld_mono (da_cons (de_var 4 (pv 4)) (da_cons (de_var 5 (pv 5)) da_nil))) (de_tup (da_cons (de_tup (da_cons de_int (da_cons de_int da_nil))) (da_cons (de_tup (da_cons de_int (da_cons de_int da_nil))) da_nil))) (nomark _)) (de_and (de_cmp (op_eqD hr.units) os_eq.op (calD h_shared_grid (hr.mono (by decide)) cld_mono (da_cons (de_var 4 (pv 4)) (da_cons (de_var 5 (pv 5)) da_nil))) (de_tup (da_cons (de_tup (da_cons de_int (da_cons de_int da_nil))) (da_cons (de_tup (da_cons de_int (da_cons de_int da_nil))) da_nil))) (nomark _)) (de_one (de_cmp op_isBl os_isB.op (calD h_lies_within (hr.mono (by decide)) cld_mono (da_cons (de_tup (da_cons (de_tup (da_cons de_int (da_cons de_int da_nil))) (da_cons (de_tup (da_cons de_int (da_cons de_int da_nil))) da_nil))) (da_cons (de_var 4 (pv 4)) da_nil))) de_bl (nomark _)))))))))

end
structure Tops (K : PySem.W.Frag) (mg : Str → Option Value) : Prop where
  g : Gl K mg
  d_is_whole : DefAt K mg "is_whole" s_is_whole ["value"]
  d_is_within : DefAt K mg "is_within" s_is_within ["value", "least", "most"]
  d_is_pair : DefAt K mg "is_pair" s_is_pair ["value"]
  d_common_divisor : DefAt K mg "common_divisor" s_common_divisor ["one", "other"]
  d_is_point_in : DefAt K mg "is_point_in" s_is_point_in ["value"]
  d_is_step_in : DefAt K mg "is_step_in" s_is_step_in ["value"]
  d_cross_in : DefAt K mg "cross_in" s_cross_in ["one", "other"]
  d_makers_in : DefAt K mg "makers_in" s_makers_in ["one", "other"]
  d_require_point : DefAt K mg "require_point" s_require_point ["value"]
  d_is_grid_in : DefAt K mg "is_grid_in" s_is_grid_in ["value"]
  d_less : DefAt K mg "less" s_less ["one", "other", "many"]
  d_opposites_of : DefAt K mg "opposites_of" s_opposites_of ["numbers"]
  d_Pair_pair : MethAt K (Clss.adr "Pair") "pair" "Pair.pair" s_Pair_pair ["self"]
  d_Pair_settle : MethAt K (Clss.adr "Pair") "settle" "Pair.settle" s_Pair_settle ["self"]
  d_Pair_take : MethAt K (Clss.adr "Pair") "take" "Pair.take" s_Pair_take ["self", "step", "by"]
  d_Pair___init__ : MethAt K (Clss.adr "Pair") "__init__" "Pair.__init__" s_Pair___init__ ["self", "steps"]
  d_grid_pair_in : DefAt K mg "grid_pair_in" s_grid_pair_in ["steps"]
  d_index_in : DefAt K mg "index_in" s_index_in ["steps"]
  d_least_common : DefAt K mg "least_common" s_least_common ["one", "other"]
  d_Pair_told_as : MethAt K (Clss.adr "Pair") "told_as" "Pair.told_as" s_Pair_told_as ["self", "point"]
  d_has_in_grid : DefAt K mg "has_in_grid" s_has_in_grid ["steps", "point"]
  d_meeting_remainder : DefAt K mg "meeting_remainder" s_meeting_remainder ["one", "other", "first", "second"]
  d_shared_pair : DefAt K mg "shared_pair" s_shared_pair ["steps", "others"]
  d_is_within_grid : DefAt K mg "is_within_grid" s_is_within_grid ["steps", "others"]
  d_require_grid : DefAt K mg "require_grid" s_require_grid ["value"]
  d_require_grid_point : DefAt K mg "require_grid_point" s_require_grid_point ["steps", "point"]
  d_require_grids : DefAt K mg "require_grids" s_require_grids ["steps", "others"]
  d_grid_pair : DefAt K mg "grid_pair" s_grid_pair ["steps"]
  d_grid_index : DefAt K mg "grid_index" s_grid_index ["steps"]
  d_is_in_grid : DefAt K mg "is_in_grid" s_is_in_grid ["steps", "point"]
  d_joint_grid : DefAt K mg "joint_grid" s_joint_grid ["steps", "others"]
  d_shared_grid : DefAt K mg "shared_grid" s_shared_grid ["steps", "others"]
  d_lies_within : DefAt K mg "lies_within" s_lies_within ["steps", "others"]
  d_are_same : DefAt K mg "are_same" s_are_same ["steps", "others"]
  d__law_dice : DefAt K mg "_law_dice" s__law_dice ["script", "spot"]
  d__law_roll : DefAt K mg "_law_roll" s__law_roll ["dice", "total"]
  d__law_common : DefAt K mg "_law_common" s__law_common ["one", "far"]
  d__law_mixed : DefAt K mg "_law_mixed" s__law_mixed ["dice", "items"]
  d__law_steps : DefAt K mg "_law_steps" s__law_steps ["dice", "a", "b", "d"]
  d__law_is_in : DefAt K mg "_law_is_in" s__law_is_in ["point", "pair"]
  d__law_index : DefAt K mg "_law_index" s__law_index ["steps"]
  d__law_drawn : DefAt K mg "_law_drawn" s__law_drawn ["dice", "most"]
  d__law_both_right : DefAt K mg "_law_both_right" s__law_both_right ["dice"]
  d__law_three_right : DefAt K mg "_law_three_right" s__law_three_right ["dice"]
  d_law : LawAt K mg "law" s_law "script"
theorem all_law {P : Program} {w : World} {K : PySem.W.Frag} {mg : Str → Option Value} (T : Tops K mg) : ∃ f fd, mg "law" = some (.ref f) ∧ (∀ (s : Shared) (u : Value), BindsTo s fd ⟨[u], []⟩ [("script", u)]) ∧ ∀ base, FnOk P w K mg base CX0 9 f fd ["script"] (spD K C_law) := by
  have h_is_whole := fun base => cal_is_whole (P := P) (w := w) (base := base) T.d_is_whole T.g 
  have h_is_within := fun base => cal_is_within (P := P) (w := w) (base := base) T.d_is_within T.g (h_is_whole base)
  have h_is_pair := fun base => cal_is_pair (P := P) (w := w) (base := base) T.d_is_pair T.g 
  have h_common_divisor := fun base => cal_common_divisor (P := P) (w := w) (base := base) T.d_common_divisor T.g 
  have h_is_point_in := fun base => cal_is_point_in (P := P) (w := w) (base := base) T.d_is_point_in T.g (h_is_pair base) (h_is_within base)
  have h_is_step_in := fun base => cal_is_step_in (P := P) (w := w) (base := base) T.d_is_step_in T.g (h_is_pair base) (h_is_within base)
  have h_cross_in := fun base => cal_cross_in (P := P) (w := w) (base := base) T.d_cross_in T.g 
  have h_makers_in := fun base => cal_makers_in (P := P) (w := w) (base := base) T.d_makers_in T.g 
  have h_require_point := fun base => cal_require_point (P := P) (w := w) (base := base) T.d_require_point T.g (h_is_point_in base)
  have h_is_grid_in := fun base => cal_is_grid_in (P := P) (w := w) (base := base) T.d_is_grid_in T.g (h_is_step_in base) (h_cross_in base)
  have h_less := fun base => cal_less (P := P) (w := w) (base := base) T.d_less T.g 
  have h_opposites_of := fun base => cal_opposites_of (P := P) (w := w) (base := base) T.d_opposites_of T.g 
  have h_Pair_pair := fun base => cal_Pair_pair (P := P) (w := w) (base := base) T.d_Pair_pair T.g 
  have h_Pair_settle := fun base => cal_Pair_settle (P := P) (w := w) (base := base) T.d_Pair_settle T.g (h_opposites_of base) (h_less base)
  have h_Pair_take := fun base => cal_Pair_take (P := P) (w := w) (base := base) T.d_Pair_take T.g (h_less base)
  have h_Pair___init__ := fun base => cal_Pair___init__ (P := P) (w := w) (base := base) T.d_Pair___init__ T.g (h_Pair_take base) (h_Pair_settle base)
  have h_grid_pair_in := fun base => cal_grid_pair_in (P := P) (w := w) (base := base) T.d_grid_pair_in T.g (h_Pair_pair base) (h_Pair___init__ base)
  have h_index_in := fun base => cal_index_in (P := P) (w := w) (base := base) T.d_index_in T.g (h_grid_pair_in base)
  have h_least_common := fun base => cal_least_common (P := P) (w := w) (base := base) T.d_least_common T.g (h_common_divisor base)
  have h_Pair_told_as := fun base => cal_Pair_told_as (P := P) (w := w) (base := base) T.d_Pair_told_as T.g 
  have h_has_in_grid := fun base => cal_has_in_grid (P := P) (w := w) (base := base) T.d_has_in_grid T.g (h_Pair_told_as base) (h_Pair___init__ base)
  have h_meeting_remainder := fun base => cal_meeting_remainder (P := P) (w := w) (base := base) T.d_meeting_remainder T.g (h_common_divisor base) (h_makers_in base) (h_least_common base)
  have h_shared_pair := fun base => cal_shared_pair (P := P) (w := w) (base := base) T.d_shared_pair T.g (h_grid_pair_in base) (h_common_divisor base) (h_least_common base) (h_meeting_remainder base)
  have h_is_within_grid := fun base => cal_is_within_grid (P := P) (w := w) (base := base) T.d_is_within_grid T.g (h_Pair___init__ base) (h_Pair_told_as base)
  have h_require_grid := fun base => cal_require_grid (P := P) (w := w) (base := base) T.d_require_grid T.g (h_is_grid_in base)
  have h_require_grid_point := fun base => cal_require_grid_point (P := P) (w := w) (base := base) T.d_require_grid_point T.g (h_require_grid base) (h_require_point base)
  have h_require_grids := fun base => cal_require_grids (P := P) (w := w) (base := base) T.d_require_grids T.g (h_require_grid base)
  have h_grid_pair := fun base => cal_grid_pair (P := P) (w := w) (base := base) T.d_grid_pair T.g (h_require_grid base) (h_grid_pair_in base)
  have h_grid_index := fun base => cal_grid_index (P := P) (w := w) (base := base) T.d_grid_index T.g (h_require_grid base) (h_index_in base)
  have h_is_in_grid := fun base => cal_is_in_grid (P := P) (w := w) (base := base) T.d_is_in_grid T.g (h_require_grid_point base) (h_has_in_grid base)
  have h_joint_grid := fun base => cal_joint_grid (P := P) (w := w) (base := base) T.d_joint_grid T.g (h_require_grids base) (h_grid_pair_in base)
  have h_shared_grid := fun base => cal_shared_grid (P := P) (w := w) (base := base) T.d_shared_grid T.g (h_require_grids base) (h_shared_pair base)
  have h_lies_within := fun base => cal_lies_within (P := P) (w := w) (base := base) T.d_lies_within T.g (h_require_grids base) (h_is_within_grid base)
  have h_are_same := fun base => cal_are_same (P := P) (w := w) (base := base) T.d_are_same T.g (h_require_grids base) (h_grid_pair_in base)
  have h__law_dice := fun base => cal__law_dice (P := P) (w := w) (base := base) T.d__law_dice T.g 
  have h__law_roll := fun base => cal__law_roll (P := P) (w := w) (base := base) T.d__law_roll T.g 
  have h__law_common := fun base => cal__law_common (P := P) (w := w) (base := base) T.d__law_common T.g 
  have h__law_mixed := fun base => cal__law_mixed (P := P) (w := w) (base := base) T.d__law_mixed T.g (h__law_roll base)
  have h__law_steps := fun base => cal__law_steps (P := P) (w := w) (base := base) T.d__law_steps T.g (h__law_roll base) (h__law_mixed base)
  have h__law_is_in := fun base => cal__law_is_in (P := P) (w := w) (base := base) T.d__law_is_in T.g 
  have h__law_index := fun base => cal__law_index (P := P) (w := w) (base := base) T.d__law_index T.g (h__law_common base)
  have h__law_drawn := fun base => cal__law_drawn (P := P) (w := w) (base := base) T.d__law_drawn T.g (h__law_roll base)
  have h__law_both_right := fun base => cal__law_both_right (P := P) (w := w) (base := base) T.d__law_both_right T.g (h__law_drawn base) (h__law_roll base) (h__law_steps base) (h_shared_grid base) (h_joint_grid base) (h_grid_index base) (h__law_index base) (h_grid_pair base) (h__law_is_in base) (h_is_in_grid base) (h_are_same base) (h_lies_within base) (h__law_common base)
  have h__law_three_right := fun base => cal__law_three_right (P := P) (w := w) (base := base) T.d__law_three_right T.g (h__law_drawn base) (h_joint_grid base) (h_shared_grid base) (h__law_roll base) (h__law_common base) (h_grid_index base) (h_lies_within base) (h_grid_pair base)
  exact law_law T.d_law T.g h__law_dice h__law_both_right h__law_three_right h_joint_grid h_shared_grid h_lies_within
end Nk66

open PySem PySem.W PyProof.Rows
instance Nk66.clss : DL.Clss := ⟨fun _ => 158⟩
set_option maxHeartbeats 0 in
theorem PySem.Challenge.cw_gridhulls_k66_whole_joint_and_shared_gri_holds : PySem.Challenge.rw_gridhulls_k66_whole_joint_and_shared_gri.Holds := by
  w_on; o_law; k_head; (case hw => w_witness2)
  k_fill
  refine DL.walk_d (n := 63) (l := PySem.Challenge.rw_gridhulls_k66_whole_joint_and_shared_gri) (C := Nk66.C_law) (k := 9) (x := "script") rfl (by decide) rfl ⟨rfl, by decide, by decide⟩ DL.cld_mono Nk66.law_true (fun w h Y => PySem.W.kIn_of Y) ?F
  case F =>
    intro w mg h KX G XX
    refine' Nk66.all_law ?T
    refine' { g := ?g, d_is_whole := ?d_is_whole, d_is_within := ?d_is_within, d_is_pair := ?d_is_pair, d_common_divisor := ?d_common_divisor, d_is_point_in := ?d_is_point_in, d_is_step_in := ?d_is_step_in, d_cross_in := ?d_cross_in, d_makers_in := ?d_makers_in, d_require_point := ?d_require_point, d_is_grid_in := ?d_is_grid_in, d_less := ?d_less, d_opposites_of := ?d_opposites_of, d_Pair_pair := ?d_Pair_pair, d_Pair_settle := ?d_Pair_settle, d_Pair_take := ?d_Pair_take, d_Pair___init__ := ?d_Pair___init__, d_grid_pair_in := ?d_grid_pair_in, d_index_in := ?d_index_in, d_least_common := ?d_least_common, d_Pair_told_as := ?d_Pair_told_as, d_has_in_grid := ?d_has_in_grid, d_meeting_remainder := ?d_meeting_remainder, d_shared_pair := ?d_shared_pair, d_is_within_grid := ?d_is_within_grid, d_require_grid := ?d_require_grid, d_require_grid_point := ?d_require_grid_point, d_require_grids := ?d_require_grids, d_grid_pair := ?d_grid_pair, d_grid_index := ?d_grid_index, d_is_in_grid := ?d_is_in_grid, d_joint_grid := ?d_joint_grid, d_shared_grid := ?d_shared_grid, d_lies_within := ?d_lies_within, d_are_same := ?d_are_same, d__law_dice := ?d__law_dice, d__law_roll := ?d__law_roll, d__law_common := ?d__law_common, d__law_mixed := ?d__law_mixed, d__law_steps := ?d__law_steps, d__law_is_in := ?d__law_is_in, d__law_index := ?d__law_index, d__law_drawn := ?d__law_drawn, d__law_both_right := ?d__law_both_right, d__law_three_right := ?d__law_three_right, d_law := ?d_law }
    case g =>
      refine' { c_MOST_PLACE := ?c_MOST_PLACE, c_MOST_STEP := ?c_MOST_STEP, c_MOST_STEPS := ?c_MOST_STEPS, c_PAIR_SIZE := ?c_PAIR_SIZE, n_abs := ?n_abs, n_all := ?n_all, n_any := ?n_any, n_bool := ?n_bool, k_Pair := ?k_Pair, nm_Pair := ?nm_Pair, mk_Pair := ?mk_Pair, kp_Pair := ?kp_Pair, n_enumerate := ?n_enumerate, n_int := ?n_int, n_isinstance := ?n_isinstance, n_len := ?n_len, n_list := ?n_list, n_max := ?n_max, n_min := ?n_min, n_range := ?n_range, n_tuple := ?n_tuple, n_zip := ?n_zip }
      case c_MOST_PLACE => refine' DL.gc_int KX G ?a; (case a => k_is)
      case c_MOST_STEP => refine' DL.gc_int KX G ?a; (case a => k_is)
      case c_MOST_STEPS => refine' DL.gc_int KX G ?a; (case a => k_is)
      case c_PAIR_SIZE => refine' DL.gc_int KX G ?a; (case a => k_is)
      case n_abs => refine' PySem.W.mg_none_of KX G ?a; (case a => k_is)
      case n_all => refine' PySem.W.mg_none_of KX G ?a; (case a => k_is)
      case n_any => refine' PySem.W.mg_none_of KX G ?a; (case a => k_is)
      case n_bool => refine' PySem.W.mg_none_of KX G ?a; (case a => k_is)
      case k_Pair =>
        show DL.ClsOk _ 158 _
        refine' DL.clsOk4 ?a ?b ?c ?d ?s0 ?s1 ?s2 ?s3
        (case a => k_is)
        (case b => k_is)
        (case c => k_is)
        (case d => k_is)
        (case s0 => refine' DL.slot1_mk ?a ?b ?c ?d ?e ?f; (case a => k_is); (case b => k_is); (case c => k_is); (case d => k_is); (case e => k_is); (case f => decide))
        (case s1 => refine' DL.slot1_mk ?a ?b ?c ?d ?e ?f; (case a => k_is); (case b => k_is); (case c => k_is); (case d => k_is); (case e => k_is); (case f => decide))
        (case s2 => refine' DL.slot1_mk ?a ?b ?c ?d ?e ?f; (case a => k_is); (case b => k_is); (case c => k_is); (case d => k_is); (case e => k_is); (case f => decide))
        (case s3 => refine' DL.slot1_mk ?a ?b ?c ?d ?e ?f; (case a => k_is); (case b => k_is); (case c => k_is); (case d => k_is); (case e => k_is); (case f => decide))
      case nm_Pair =>
        show mg "Pair" = some (.ref 158)
        refine' PySem.W.mg_of KX G ?a; (case a => k_is)
      case mk_Pair =>
        show PySem.W.makesIn _ 158 = true
        k_is
      case kp_Pair =>
        show PySem.W.keepIn _ (.ref 158) = true
        k_is
      case n_enumerate => refine' PySem.W.mg_none_of KX G ?a; (case a => k_is)
      case n_int => refine' PySem.W.mg_none_of KX G ?a; (case a => k_is)
      case n_isinstance => refine' PySem.W.mg_none_of KX G ?a; (case a => k_is)
      case n_len => refine' PySem.W.mg_none_of KX G ?a; (case a => k_is)
      case n_list => refine' PySem.W.mg_none_of KX G ?a; (case a => k_is)
      case n_max => refine' PySem.W.mg_none_of KX G ?a; (case a => k_is)
      case n_min => refine' PySem.W.mg_none_of KX G ?a; (case a => k_is)
      case n_range => refine' PySem.W.mg_none_of KX G ?a; (case a => k_is)
      case n_tuple => refine' PySem.W.mg_none_of KX G ?a; (case a => k_is)
      case n_zip => refine' PySem.W.mg_none_of KX G ?a; (case a => k_is)
    case d_is_whole => refine' DL.defAt_mk KX G (fun _ _ _ _ _ _ us hl => match us, hl with | [_], _ => rfl) ?a ?l ?c ?k; (case a => k_is); (case l => k_is); (case c => k_is); (case k => k_is)
    case d_is_within => refine' DL.defAt_mk KX G (fun _ _ _ _ _ _ us hl => match us, hl with | [_, _, _], _ => rfl) ?a ?l ?c ?k; (case a => k_is); (case l => k_is); (case c => k_is); (case k => k_is)
    case d_is_pair => refine' DL.defAt_mk KX G (fun _ _ _ _ _ _ us hl => match us, hl with | [_], _ => rfl) ?a ?l ?c ?k; (case a => k_is); (case l => k_is); (case c => k_is); (case k => k_is)
    case d_common_divisor => refine' DL.defAt_mk KX G (fun _ _ _ _ _ _ us hl => match us, hl with | [_, _], _ => rfl) ?a ?l ?c ?k; (case a => k_is); (case l => k_is); (case c => k_is); (case k => k_is)
    case d_is_point_in => refine' DL.defAt_mk KX G (fun _ _ _ _ _ _ us hl => match us, hl with | [_], _ => rfl) ?a ?l ?c ?k; (case a => k_is); (case l => k_is); (case c => k_is); (case k => k_is)
    case d_is_step_in => refine' DL.defAt_mk KX G (fun _ _ _ _ _ _ us hl => match us, hl with | [_], _ => rfl) ?a ?l ?c ?k; (case a => k_is); (case l => k_is); (case c => k_is); (case k => k_is)
    case d_cross_in => refine' DL.defAt_mk KX G (fun _ _ _ _ _ _ us hl => match us, hl with | [_, _], _ => rfl) ?a ?l ?c ?k; (case a => k_is); (case l => k_is); (case c => k_is); (case k => k_is)
    case d_makers_in => refine' DL.defAt_mk KX G (fun _ _ _ _ _ _ us hl => match us, hl with | [_, _], _ => rfl) ?a ?l ?c ?k; (case a => k_is); (case l => k_is); (case c => k_is); (case k => k_is)
    case d_require_point => refine' DL.defAt_mk KX G (fun _ _ _ _ _ _ us hl => match us, hl with | [_], _ => rfl) ?a ?l ?c ?k; (case a => k_is); (case l => k_is); (case c => k_is); (case k => k_is)
    case d_is_grid_in => refine' DL.defAt_mk KX G (fun _ _ _ _ _ _ us hl => match us, hl with | [_], _ => rfl) ?a ?l ?c ?k; (case a => k_is); (case l => k_is); (case c => k_is); (case k => k_is)
    case d_less => refine' DL.defAt_mk KX G (fun _ _ _ _ _ _ us hl => match us, hl with | [_, _, _], _ => rfl) ?a ?l ?c ?k; (case a => k_is); (case l => k_is); (case c => k_is); (case k => k_is)
    case d_opposites_of => refine' DL.defAt_mk KX G (fun _ _ _ _ _ _ us hl => match us, hl with | [_], _ => rfl) ?a ?l ?c ?k; (case a => k_is); (case l => k_is); (case c => k_is); (case k => k_is)
    case d_Pair_pair =>
      show DL.MethAt _ 158 _ _ _ _
      refine' DL.methAt_mk (fun _ _ _ _ _ _ us hl => match us, hl with | [_], _ => rfl) ?a ?n ?l ?c ?k; (case a => k_is); (case n => k_is); (case l => k_is); (case c => k_is); (case k => k_is)
    case d_Pair_settle =>
      show DL.MethAt _ 158 _ _ _ _
      refine' DL.methAt_mk (fun _ _ _ _ _ _ us hl => match us, hl with | [_], _ => rfl) ?a ?n ?l ?c ?k; (case a => k_is); (case n => k_is); (case l => k_is); (case c => k_is); (case k => k_is)
    case d_Pair_take =>
      show DL.MethAt _ 158 _ _ _ _
      refine' DL.methAt_mk (fun _ _ _ _ _ _ us hl => match us, hl with | [_, _, _], _ => rfl) ?a ?n ?l ?c ?k; (case a => k_is); (case n => k_is); (case l => k_is); (case c => k_is); (case k => k_is)
    case d_Pair___init__ =>
      show DL.MethAt _ 158 _ _ _ _
      refine' DL.methAt_mk (fun _ _ _ _ _ _ us hl => match us, hl with | [_, _], _ => rfl) ?a ?n ?l ?c ?k; (case a => k_is); (case n => k_is); (case l => k_is); (case c => k_is); (case k => k_is)
    case d_grid_pair_in => refine' DL.defAt_mk KX G (fun _ _ _ _ _ _ us hl => match us, hl with | [_], _ => rfl) ?a ?l ?c ?k; (case a => k_is); (case l => k_is); (case c => k_is); (case k => k_is)
    case d_index_in => refine' DL.defAt_mk KX G (fun _ _ _ _ _ _ us hl => match us, hl with | [_], _ => rfl) ?a ?l ?c ?k; (case a => k_is); (case l => k_is); (case c => k_is); (case k => k_is)
    case d_least_common => refine' DL.defAt_mk KX G (fun _ _ _ _ _ _ us hl => match us, hl with | [_, _], _ => rfl) ?a ?l ?c ?k; (case a => k_is); (case l => k_is); (case c => k_is); (case k => k_is)
    case d_Pair_told_as =>
      show DL.MethAt _ 158 _ _ _ _
      refine' DL.methAt_mk (fun _ _ _ _ _ _ us hl => match us, hl with | [_, _], _ => rfl) ?a ?n ?l ?c ?k; (case a => k_is); (case n => k_is); (case l => k_is); (case c => k_is); (case k => k_is)
    case d_has_in_grid => refine' DL.defAt_mk KX G (fun _ _ _ _ _ _ us hl => match us, hl with | [_, _], _ => rfl) ?a ?l ?c ?k; (case a => k_is); (case l => k_is); (case c => k_is); (case k => k_is)
    case d_meeting_remainder => refine' DL.defAt_mk KX G (fun _ _ _ _ _ _ us hl => match us, hl with | [_, _, _, _], _ => rfl) ?a ?l ?c ?k; (case a => k_is); (case l => k_is); (case c => k_is); (case k => k_is)
    case d_shared_pair => refine' DL.defAt_mk KX G (fun _ _ _ _ _ _ us hl => match us, hl with | [_, _], _ => rfl) ?a ?l ?c ?k; (case a => k_is); (case l => k_is); (case c => k_is); (case k => k_is)
    case d_is_within_grid => refine' DL.defAt_mk KX G (fun _ _ _ _ _ _ us hl => match us, hl with | [_, _], _ => rfl) ?a ?l ?c ?k; (case a => k_is); (case l => k_is); (case c => k_is); (case k => k_is)
    case d_require_grid => refine' DL.defAt_mk KX G (fun _ _ _ _ _ _ us hl => match us, hl with | [_], _ => rfl) ?a ?l ?c ?k; (case a => k_is); (case l => k_is); (case c => k_is); (case k => k_is)
    case d_require_grid_point => refine' DL.defAt_mk KX G (fun _ _ _ _ _ _ us hl => match us, hl with | [_, _], _ => rfl) ?a ?l ?c ?k; (case a => k_is); (case l => k_is); (case c => k_is); (case k => k_is)
    case d_require_grids => refine' DL.defAt_mk KX G (fun _ _ _ _ _ _ us hl => match us, hl with | [_, _], _ => rfl) ?a ?l ?c ?k; (case a => k_is); (case l => k_is); (case c => k_is); (case k => k_is)
    case d_grid_pair => refine' DL.defAt_mk KX G (fun _ _ _ _ _ _ us hl => match us, hl with | [_], _ => rfl) ?a ?l ?c ?k; (case a => k_is); (case l => k_is); (case c => k_is); (case k => k_is)
    case d_grid_index => refine' DL.defAt_mk KX G (fun _ _ _ _ _ _ us hl => match us, hl with | [_], _ => rfl) ?a ?l ?c ?k; (case a => k_is); (case l => k_is); (case c => k_is); (case k => k_is)
    case d_is_in_grid => refine' DL.defAt_mk KX G (fun _ _ _ _ _ _ us hl => match us, hl with | [_, _], _ => rfl) ?a ?l ?c ?k; (case a => k_is); (case l => k_is); (case c => k_is); (case k => k_is)
    case d_joint_grid => refine' DL.defAt_mk KX G (fun _ _ _ _ _ _ us hl => match us, hl with | [_, _], _ => rfl) ?a ?l ?c ?k; (case a => k_is); (case l => k_is); (case c => k_is); (case k => k_is)
    case d_shared_grid => refine' DL.defAt_mk KX G (fun _ _ _ _ _ _ us hl => match us, hl with | [_, _], _ => rfl) ?a ?l ?c ?k; (case a => k_is); (case l => k_is); (case c => k_is); (case k => k_is)
    case d_lies_within => refine' DL.defAt_mk KX G (fun _ _ _ _ _ _ us hl => match us, hl with | [_, _], _ => rfl) ?a ?l ?c ?k; (case a => k_is); (case l => k_is); (case c => k_is); (case k => k_is)
    case d_are_same => refine' DL.defAt_mk KX G (fun _ _ _ _ _ _ us hl => match us, hl with | [_, _], _ => rfl) ?a ?l ?c ?k; (case a => k_is); (case l => k_is); (case c => k_is); (case k => k_is)
    case d__law_dice => refine' DL.defAt_mk KX G (fun _ _ _ _ _ _ us hl => match us, hl with | [_, _], _ => rfl) ?a ?l ?c ?k; (case a => k_is); (case l => k_is); (case c => k_is); (case k => k_is)
    case d__law_roll => refine' DL.defAt_mk KX G (fun _ _ _ _ _ _ us hl => match us, hl with | [_, _], _ => rfl) ?a ?l ?c ?k; (case a => k_is); (case l => k_is); (case c => k_is); (case k => k_is)
    case d__law_common => refine' DL.defAt_mk KX G (fun _ _ _ _ _ _ us hl => match us, hl with | [_, _], _ => rfl) ?a ?l ?c ?k; (case a => k_is); (case l => k_is); (case c => k_is); (case k => k_is)
    case d__law_mixed => refine' DL.defAt_mk KX G (fun _ _ _ _ _ _ us hl => match us, hl with | [_, _], _ => rfl) ?a ?l ?c ?k; (case a => k_is); (case l => k_is); (case c => k_is); (case k => k_is)
    case d__law_steps => refine' DL.defAt_mk KX G (fun _ _ _ _ _ _ us hl => match us, hl with | [_, _, _, _], _ => rfl) ?a ?l ?c ?k; (case a => k_is); (case l => k_is); (case c => k_is); (case k => k_is)
    case d__law_is_in => refine' DL.defAt_mk KX G (fun _ _ _ _ _ _ us hl => match us, hl with | [_, _], _ => rfl) ?a ?l ?c ?k; (case a => k_is); (case l => k_is); (case c => k_is); (case k => k_is)
    case d__law_index => refine' DL.defAt_mk KX G (fun _ _ _ _ _ _ us hl => match us, hl with | [_], _ => rfl) ?a ?l ?c ?k; (case a => k_is); (case l => k_is); (case c => k_is); (case k => k_is)
    case d__law_drawn => refine' DL.defAt_mk KX G (fun _ _ _ _ _ _ us hl => match us, hl with | [_, _], _ => rfl) ?a ?l ?c ?k; (case a => k_is); (case l => k_is); (case c => k_is); (case k => k_is)
    case d__law_both_right => refine' DL.defAt_mk KX G (fun _ _ _ _ _ _ us hl => match us, hl with | [_], _ => rfl) ?a ?l ?c ?k; (case a => k_is); (case l => k_is); (case c => k_is); (case k => k_is)
    case d__law_three_right => refine' DL.defAt_mk KX G (fun _ _ _ _ _ _ us hl => match us, hl with | [_], _ => rfl) ?a ?l ?c ?k; (case a => k_is); (case l => k_is); (case c => k_is); (case k => k_is)
    case d_law => refine' DL.lawAt_mk KX G (fun _ _ _ _ _ _ _ => rfl) ?a ?l ?c ?k; (case a => k_is); (case l => k_is); (case c => k_is); (case k => k_is)
