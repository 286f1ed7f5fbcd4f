import PyProof.Rows.All
import Wide.All
import OpenK.AllK
import Wide.FinOn
import HandS.ForExc
import HandS.Comp
import HandS.IsInst
import HandS.Wide
import HandS.TupAny
import HandS.Style
import HandS.WideMore
import HandS.Zip
import HandS.TupLe
import HandS.List
import HandS.Iter
import PySem.Challenge.RW_gridhulls_k07_whole_rows_of_farey
set_option Elab.async false
set_option linter.all false
set_option maxRecDepth 100000
set_option maxHeartbeats 4000000
/-! The D layer, part 1: values as pure data, the slots of a frame, how they lie in an abstract heap. -/
namespace DL
open PySem PySem.Spec PyProof.Rows L2

abbrev D := PyData

theorem sqT_mono {K : PySem.W.Frag} {H H' : Hp} {a : Addr} {xs : List V} (e : Same H H') (h : SqT K H a xs) : SqT K H' a xs := by
  rcases h with (h | ⟨o, h⟩) | h
  · exact .inl (.inl (e _ _ h))
  · exact .inl (.inr ⟨o, e _ _ h⟩)
  · exact .inr h

/-! the data that stands at a value: as the library's Dp, lists tracked or locked -/
/-- a key as data -/
def kD : Key → PyData
  | .inl i => .int i
  | .inr x => .str x
theorem kD_ne (k : Key) : PyData.none ≠ kD k := by cases k <;> (intro h; cases h)
mutual
inductive Dq (K : PySem.W.Frag) (F : Hp) : V → PyData → Prop
  | non : Dq K F .non .none
  | bl (b : Bool) : Dq K F (.bl b) (.bool b)
  | int (i : Int) : Dq K F (.int i) (.int i)
  | str (z : Str) : Dq K F (.str z) (.str z)
  | lst {p : Addr} {vs : List V} {cs : List PyData} : Rd F p (.lst vs) → DqAll K F vs cs → Dq K F (.ref p) (.list cs)
  | tup {p : Addr} {vs : List V} {cs : List PyData} : SqT K F p vs → DqAll K F vs cs → Dq K F (.ref p) (.tuple cs)
  /-- a list that is only read (the script): written here as a dict at the key None -/
  | scr {p : Addr} {vs : List V} {ds : List PyData} : SqL K F p vs → DqAll K F vs ds → Dq K F (.ref p) (.dict [(.none, .list ds)])
  /-- a dict of ints and texts -/
  | dct {p : Addr} {o : Obj} {kvs : List (Key × V)} {ds : List (PyData × PyData)} : F p = some (.frz o (.dK kvs)) → DqKv K F kvs ds → Dq K F (.ref p) (.dict ds)
inductive DqAll (K : PySem.W.Frag) (F : Hp) : List V → List PyData → Prop
  | nil : DqAll K F [] []
  | cons {v : V} {d : PyData} {vs : List V} {cs : List PyData} : Dq K F v d → DqAll K F vs cs → DqAll K F (v :: vs) (d :: cs)
inductive DqKv (K : PySem.W.Frag) (F : Hp) : List (Key × V) → List (PyData × PyData) → Prop
  | nil : DqKv K F [] []
  | cons {k : Key} {v : V} {kd d : PyData} {vs : List (Key × V)} {cs : List (PyData × PyData)} : kd = kD k → Dq K F v d → DqKv K F vs cs → DqKv K F ((k, v) :: vs) ((kd, d) :: cs)
end
mutual
theorem dq_dp {K : PySem.W.Frag} {F : Hp} : ∀ (d : PyData) (v : V), d.canLay0 = true → Dq K F v d → Dp K F v d
  | .none, v, _, h => by cases h; exact .non
  | .bool b, v, _, h => by cases h; exact .bl b
  | .int i, v, _, h => by cases h; exact .int i
  | .str x, v, _, h => by cases h; exact .str x
  | .list ds, v, c, h => by
    cases h with
    | lst h1 h2 => exact .lst (.inl h1) (dqAll_dp ds _ (by simpa [PyData.canLay0] using c) h2)
  | .tuple ds, v, c, h => by
    cases h with
    | tup h1 h2 => exact .tup h1 (dqAll_dp ds _ (by simpa [PyData.canLay0] using c) h2)
  | .dict _, v, c, h => by simp [PyData.canLay0] at c
theorem dqAll_dp {K : PySem.W.Frag} {F : Hp} : ∀ (ds : List PyData) (vs : List V), PyData.canLayAll0 ds = true → DqAll K F vs ds → DpAll K F vs ds
  | [], vs, _, h => by cases h; exact .nil
  | d :: ds, vs, c, h => by
    have c' : d.canLay0 = true ∧ PyData.canLayAll0 ds = true := by simpa [PyData.canLayAll0] using c
    cases h with
    | cons h1 h2 => exact .cons (dq_dp d _ c'.1 h1) (dqAll_dp ds _ c'.2 h2)
end
theorem rd_mono {H H' : Hp} {a : Addr} {u : HO} (e : Same H H') (h : Rd H a u) : Rd H' a u := by
  rcases h with h | ⟨o, h⟩
  · exact .inl (e _ _ h)
  · exact .inr ⟨o, e _ _ h⟩

mutual
theorem dp_mono {K : PySem.W.Frag} {F F' : Hp} (s : Same F F') : ∀ (d : D) (v : V), Dq K F v d → Dq K F' v d
  | _, _, .non => .non
  | _, _, .bl b => .bl b
  | _, _, .int i => .int i
  | _, _, .str x => .str x
  | _, _, .lst h1 h2 => .lst (rd_mono s h1) (dpAll_mono s _ _ h2)
  | _, _, .tup h1 h2 => .tup (sqT_mono s h1) (dpAll_mono s _ _ h2)
  | _, _, .scr h1 h2 => .scr (s.seq h1) (dpAll_mono s _ _ h2)
  | _, _, .dct h1 h2 => .dct (s _ _ h1) (dpKv_mono s _ _ h2)
theorem dpAll_mono {K : PySem.W.Frag} {F F' : Hp} (s : Same F F') : ∀ (ds : List D) (vs : List V), DqAll K F vs ds → DqAll K F' vs ds
  | _, _, .nil => .nil
  | _, _, .cons h1 h2 => .cons (dp_mono s _ _ h1) (dpAll_mono s _ _ h2)
theorem dpKv_mono {K : PySem.W.Frag} {F F' : Hp} (s : Same F F') : ∀ (ds : List (D × D)) (vs : List (Key × V)), DqKv K F vs ds → DqKv K F' vs ds
  | _, _, .nil => .nil
  | _, _, .cons h0 h1 h2 => .cons h0 (dp_mono s _ _ h1) (dpKv_mono s _ _ h2)
end

section
variable {K : PySem.W.Frag} {F : Hp}
theorem dp_int {v : V} {i : Int} (h : Dq K F v (.int i)) : v = .int i := by cases h; rfl
theorem dp_bool {v : V} {b : Bool} (h : Dq K F v (.bool b)) : v = .bl b := by cases h; rfl
theorem dp_none {v : V} (h : Dq K F v .none) : v = .non := by cases h; rfl
theorem dp_str {v : V} {x : Str} (h : Dq K F v (.str x)) : v = .str x := by cases h; rfl
theorem dp_list {v : V} {ds : List D} (h : Dq K F v (.list ds)) : ∃ a xs, v = .ref a ∧ SqL K F a xs ∧ DqAll K F xs ds := by
  cases h with
  | lst h1 h2 => exact ⟨_, _, rfl, .inl h1, h2⟩
theorem dp_listR {v : V} {ds : List D} (h : Dq K F v (.list ds)) : ∃ a xs, v = .ref a ∧ Rd F a (.lst xs) ∧ DqAll K F xs ds := by
  cases h with
  | lst h1 h2 => exact ⟨_, _, rfl, h1, h2⟩
theorem dp_tup {v : V} {ds : List D} (h : Dq K F v (.tuple ds)) : ∃ a xs, v = .ref a ∧ SqT K F a xs ∧ DqAll K F xs ds := by
  cases h with
  | tup h1 h2 => exact ⟨_, _, rfl, h1, h2⟩
theorem dp_scr {v : V} {ds : List D} (h : Dq K F v (.dict [(.none, .list ds)])) : ∃ a xs, v = .ref a ∧ SqL K F a xs ∧ DqAll K F xs ds := by
  generalize e : (PyData.dict [(PyData.none, PyData.list ds)]) = d at h
  cases h with
  | scr h1 h2 => cases e; exact ⟨_, _, rfl, h1, h2⟩
  | dct h1 h2 =>
    cases e
    cases h2 with
    | cons h0 _ _ => exact absurd h0 (kD_ne _)
  | _ => cases e

theorem dpAll_len : ∀ {xs : List V} {ds : List D}, DqAll K F xs ds → xs.length = ds.length
  | [], [], _ => rfl
  | _ :: _, _ :: _, .cons _ h => congrArg (· + 1) (dpAll_len h)
  | [], _ :: _, h => nomatch h
  | _ :: _, [], h => nomatch h
theorem dpAll_get : ∀ {xs : List V} {ds : List D} {i : Nat} {x : V}, DqAll K F xs ds → xs[i]? = some x → ∃ d, ds[i]? = some d ∧ Dq K F x d
  | _ :: _, _ :: _, 0, _, .cons h _, e => by cases e; exact ⟨_, rfl, h⟩
  | _ :: _, _ :: _, i + 1, _, .cons _ h, e => dpAll_get (i := i) h e
  | [], [], _, _, .nil, e => by simp at e
theorem dpAll_got : ∀ {xs : List V} {ds : List D} {i : Nat} {d : D}, DqAll K F xs ds → ds[i]? = some d → ∃ x, xs[i]? = some x ∧ Dq K F x d
  | _ :: _, _ :: _, 0, _, .cons h _, e => by cases e; exact ⟨_, rfl, h⟩
  | _ :: _, _ :: _, i + 1, _, .cons _ h, e => dpAll_got (i := i) h e
  | [], [], _, _, .nil, e => by simp at e
theorem dpAll_app : ∀ {xs ys : List V} {ds es : List D}, DqAll K F xs ds → DqAll K F ys es → DqAll K F (xs ++ ys) (ds ++ es)
  | _, _, _, _, .nil, h => h
  | _, _, _, _, .cons h t, h' => .cons h (dpAll_app t h')
theorem dpAll_take : ∀ {xs : List V} {ds : List D} (n : Nat), DqAll K F xs ds → DqAll K F (xs.take n) (ds.take n)
  | _, _, 0, h => by rw [List.take_zero, List.take_zero]; exact .nil
  | _, _, n + 1, .nil => .nil
  | _, _, n + 1, .cons h t => .cons h (dpAll_take n t)
theorem dpAll_drop : ∀ {xs : List V} {ds : List D} (n : Nat), DqAll K F xs ds → DqAll K F (xs.drop n) (ds.drop n)
  | _, _, 0, h => h
  | _, _, n + 1, .nil => .nil
  | _, _, n + 1, .cons h t => dpAll_drop n t
theorem dpAll_set : ∀ {xs : List V} {ds : List D} {x : V} {d : D} (n : Nat), Dq K F x d → DqAll K F xs ds → DqAll K F (xs.set n x) (ds.set n d)
  | _, _, _, _, _, _, .nil => .nil
  | _, _, _, _, 0, h', .cons h t => .cons h' t
  | _, _, _, _, n + 1, h', .cons h t => .cons h (dpAll_set n h' t)
theorem dpAll_rev : ∀ {xs : List V} {ds : List D}, DqAll K F xs ds → DqAll K F xs.reverse ds.reverse
  | _, _, .nil => .nil
  | _, _, .cons h t => by
    rw [List.reverse_cons, List.reverse_cons]
    exact dpAll_app (dpAll_rev t) (.cons h .nil)
theorem dpAll_rep {xs : List V} {ds : List D} (h : DqAll K F xs ds) : ∀ k : Nat, DqAll K F (List.replicate k xs).flatten (List.replicate k ds).flatten
  | 0 => .nil
  | k + 1 => by
    rw [List.replicate_succ, List.replicate_succ, List.flatten_cons, List.flatten_cons]
    exact dpAll_app h (dpAll_rep h k)
theorem dpAll_dropLast {xs : List V} {ds : List D} (h : DqAll K F xs ds) : DqAll K F xs.dropLast ds.dropLast := by
  rw [List.dropLast_eq_take, List.dropLast_eq_take, dpAll_len h]
  exact dpAll_take _ h
theorem dpAll_cut {xs : List V} {ds : List D} (h : DqAll K F xs ds) (lo hi : Option Int) :
    DqAll K F (cutV xs lo hi) ((ds.drop (HT.sIx ds.length 0 lo)).take (HT.sIx ds.length ds.length hi - HT.sIx ds.length 0 lo)) := by
  unfold cutV
  rw [dpAll_len h]
  exact dpAll_take _ (dpAll_drop _ h)
theorem dpAll_ints : ∀ ns : List Int, DqAll K F (ns.map V.int) (ns.map PyData.int)
  | [] => .nil
  | n :: ns => .cons (.int n) (dpAll_ints ns)
theorem dpAll_of_ints : ∀ {xs : List V} (ns : List Int), DqAll K F xs (ns.map PyData.int) → xs = ns.map V.int
  | _, [], h => by cases h; rfl
  | _, n :: ns, h => by
    cases h with
    | cons h1 h2 => rw [dp_int h1, dpAll_of_ints ns h2]; rfl
theorem dpAll_of_bools : ∀ {xs : List V} (ns : List Bool), DqAll K F xs (ns.map PyData.bool) → xs = ns.map V.bl
  | _, [], h => by cases h; rfl
  | _, n :: ns, h => by
    cases h with
    | cons h1 h2 => rw [dp_bool h1, dpAll_of_bools ns h2]; rfl
end

/-! ### slots -/
/-- what stands in a place of one's own -/
inductive Ow where
  | lst (ds : List D)
  | dct (kvs : List (Key × D))
  | dtu (kvs : List (List Key × D))
  | dctZ (kvs : List (Key × D))
  | set (S : Int → Bool) (n : Nat)
inductive KvR {κ : Type} (K : PySem.W.Frag) (F : Hp) : List (κ × V) → List (κ × D) → Prop
  | nil : KvR K F [] []
  | cons {k : κ} {v : V} {d : D} {vs : List (κ × V)} {ds : List (κ × D)} : Dq K F v d → KvR K F vs ds → KvR K F ((k, v) :: vs) ((k, d) :: ds)
theorem KvR.mono {κ : Type} {K : PySem.W.Frag} {F F' : Hp} (s : Same F F') : ∀ {vs : List (κ × V)} {ds : List (κ × D)}, KvR K F vs ds → KvR K F' vs ds
  | _, _, .nil => .nil
  | _, _, .cons h t => .cons (dp_mono s _ _ h) (t.mono s)
inductive OwR (K : PySem.W.Frag) (F : Hp) : HO → Ow → Prop
  | lst {xs : List V} {ds : List D} : DqAll K F xs ds → OwR K F (.lst xs) (.lst ds)
  | dct {xs : List (Key × V)} {ds : List (Key × D)} : KvR K F xs ds → OwR K F (.dK xs) (.dct ds)
  | dtu {xs : List (List Key × V)} {ds : List (List Key × D)} : KvR K F xs ds → OwR K F (.dT xs) (.dtu ds)
  | dctZ {o : Obj} {xs : List (Key × V)} {ds : List (Key × D)} : KvR K F xs ds → OwR K F (.frz o (.dK xs)) (.dctZ ds)
  | set {S : Int → Bool} {n : Nat} : OwR K F (.set S n) (.set S n)
theorem ow_mono {K : PySem.W.Frag} {F F' : Hp} (s : Same F F') {ho : HO} {o : Ow} (h : OwR K F ho o) : OwR K F' ho o := by
  cases h with
  | lst h => exact .lst (dpAll_mono s _ _ h)
  | dct h => exact .dct (h.mono s)
  | dtu h => exact .dtu (h.mono s)
  | dctZ h => exact .dctZ (h.mono s)
  | set => exact .set
theorem owr_dct {K : PySem.W.Frag} {F : Hp} {ho : HO} {ds : List (Key × D)} (h : OwR K F ho (.dct ds)) : ∃ xs, ho = .dK xs ∧ KvR K F xs ds := by
  cases h with
  | dct h => exact ⟨_, rfl, h⟩
theorem owr_lst {K : PySem.W.Frag} {F : Hp} {ho : HO} {ds : List D} (h : OwR K F ho (.lst ds)) : ∃ xs, ho = .lst xs ∧ DqAll K F xs ds := by
  cases h with
  | lst h => exact ⟨_, rfl, h⟩
/-- what a slot holds: nothing that is known; data; a list of its own; the list that the caller lent -/
inductive Sl where
  | un
  | im (d : D)
  | mu (o : Ow)
  | bo (o : Ow)
abbrev Env := List Sl

/-- the world of a body: the known data and the heap at its entry, what it may change, the lent list's place -/
structure Wd where
  F0 : Hp
  H0 : Hp
  own : Addr → Prop
  ba : Addr
  hb : Prop

structure Rel (K : PySem.W.Frag) (w : Wd) (F : Hp) (ad : Nat → Addr) (σ : L2.St) (H : Hp) (e : Env) : Prop where
  sub : Same F H
  old : Same w.F0 F
  dom : ∀ b o, w.H0 b = some o → ∃ o', H b = some o'
  fr : ∀ b o, w.H0 b = some o → w.F0 b = none → ¬ w.own b → H b = some o ∧ F b = none
  len : σ.length = e.length
  im : ∀ (i : Nat) (d : D), e[i]? = some (.im d) → ∃ v, σ[i]? = some (some v) ∧ Dq K F v d
  mu : ∀ (i : Nat) (ds : Ow), e[i]? = some (.mu ds) → ∃ xs, σ[i]? = some (some (.ref (ad i))) ∧ H (ad i) = some xs ∧ F (ad i) = none ∧ OwR K F xs ds ∧ (w.H0 (ad i) = none ∨ w.own (ad i))
  bo : ∀ (i : Nat) (ds : Ow), e[i]? = some (.bo ds) → w.hb ∧ ∃ xs, σ[i]? = some (some (.ref w.ba)) ∧ H w.ba = some xs ∧ F w.ba = none ∧ OwR K F xs ds
  hbo : w.hb → w.own w.ba ∧ ∃ o, w.H0 w.ba = some o
  inj : ∀ (i j : Nat) (ds ds' : Ow), e[i]? = some (.mu ds) → e[j]? = some (.mu ds') → ad i = ad j → i = j
  nbo : ∀ (i : Nat) (ds : Ow), e[i]? = some (.mu ds) → w.hb → ad i ≠ w.ba
  ubo : ∀ (i j : Nat) (ds ds' : Ow), e[i]? = some (.bo ds) → e[j]? = some (.bo ds') → i = j

theorem same_upd {F H : Hp} {p : Addr} {o : HO} (s : Same F H) (h : H p = none) : Same F (upd F p o) := fun b u q => by
  by_cases e : b = p
  · subst e
    rw [s b u q] at h
    cases h
  · rw [upd_ne e]; exact q
theorem same_upd2 {F H : Hp} {p : Addr} {o : HO} (s : Same F H) : Same (upd F p o) (upd H p o) := fun b u q => by
  by_cases e : b = p
  · subst e
    rw [upd_same] at q ⊢
    exact q
  · rw [upd_ne e] at q ⊢
    exact s b u q

section
variable {K : PySem.W.Frag} {w : Wd} {F : Hp} {ad : Nat → Addr} {σ : L2.St} {H : Hp} {e : Env}

/-- a new thing that never changes is laid -/
theorem Rel.grow {p : Addr} {o : HO} (r : Rel K w F ad σ H e) (h : H p = none) : Rel K w (upd F p o) ad σ (upd H p o) e := by
  have hF : Same F (upd F p o) := same_upd r.sub h
  have hn : ∀ b u, H b = some u → b ≠ p := fun b u q z => by subst z; rw [h] at q; cases q
  have up : ∀ b u, H b = some u → (upd H p o) b = some u := fun b u q => by rw [upd_ne (hn b u q)]; exact q
  have dn : ∀ b, b ≠ p → F b = none → (upd F p o) b = none := fun b z q => by rw [upd_ne z]; exact q
  exact {
    sub := same_upd2 r.sub
    old := r.old.trans hF
    dom := fun b u q => by obtain ⟨u', q'⟩ := r.dom b u q; exact ⟨u', up b u' q'⟩
    fr := fun b u q1 q2 q3 => by
      obtain ⟨a1, a2⟩ := r.fr b u q1 q2 q3
      exact ⟨up b u a1, dn b (hn b u a1) a2⟩
    len := r.len
    im := fun i d q => by obtain ⟨v, a1, a2⟩ := r.im i d q; exact ⟨v, a1, dp_mono hF _ _ a2⟩
    mu := fun i ds q => by
      obtain ⟨xs, a1, a2, a3, a4, a5⟩ := r.mu i ds q
      exact ⟨xs, a1, up _ _ a2, dn _ (hn _ _ a2) a3, ow_mono hF a4, a5⟩
    bo := fun i ds q => by
      obtain ⟨a0, xs, a1, a2, a3, a4⟩ := r.bo i ds q
      exact ⟨a0, xs, a1, up _ _ a2, dn _ (hn _ _ a2) a3, ow_mono hF a4⟩
    hbo := r.hbo
    inj := r.inj
    nbo := r.nbo
    ubo := r.ubo }

/-- a slot's own list becomes data -/
theorem Rel.freezeG {i : Nat} {ds : Ow} {xs : HO} {dd : D} (r : Rel K w F ad σ H e) (hi : e[i]? = some (.mu ds)) (hH : H (ad i) = some xs) (up : ∀ F' : Hp, F' (ad i) = some xs → OwR K F' xs ds → Dq K F' (.ref (ad i)) dd) :
    Rel K w (upd F (ad i) xs) ad σ H (e.set i (.im dd)) ∧ Same F (upd F (ad i) xs) ∧ Dq K (upd F (ad i) xs) (.ref (ad i)) dd ∧ σ[i]? = some (some (.ref (ad i))) := by
  obtain ⟨xs', a1, a2, a3, a4, a5⟩ := r.mu i ds hi
  obtain rfl : xs = xs' := by rw [hH] at a2; cases a2; rfl
  have hF : Same F (upd F (ad i) xs) := fun b u q => by
    by_cases z : b = ad i
    · subst z; rw [a3] at q; cases q
    · rw [upd_ne z]; exact q
  have hd : Dq K (upd F (ad i) xs) (.ref (ad i)) dd := up _ upd_same (ow_mono hF a4)
  have dn : ∀ b, b ≠ ad i → F b = none → (upd F (ad i) xs) b = none := fun b z q => by rw [upd_ne z]; exact q
  have hlt : i < e.length := (List.getElem?_eq_some_iff.mp hi).1
  have st : ∀ (j : Nat) (s : Sl), (e.set i (.im dd))[j]? = some s → (j = i ∧ s = .im dd) ∨ (j ≠ i ∧ e[j]? = some s) := fun j s q => by
    rw [List.getElem?_set] at q
    by_cases z : i = j
    · subst z
      rw [if_pos rfl, if_pos hlt] at q
      exact .inl ⟨rfl, (Option.some.inj q).symm⟩
    · rw [if_neg z] at q
      exact .inr ⟨fun z' => z z'.symm, q⟩
  refine ⟨?_, hF, hd, a1⟩
  exact {
    sub := fun b u q => by
      by_cases z : b = ad i
      · subst z; rw [upd_same] at q; cases q; exact hH
      · rw [upd_ne z] at q; exact r.sub b u q
    old := r.old.trans hF
    dom := r.dom
    fr := fun b u q1 q2 q3 => by
      obtain ⟨b1, b2⟩ := r.fr b u q1 q2 q3
      refine ⟨b1, dn b (fun z => ?_) b2⟩
      subst z
      rcases a5 with a5 | a5
      · rw [a5] at q1; cases q1
      · exact q3 a5
    len := by rw [List.length_set]; exact r.len
    im := fun j d q => by
      rcases st j _ q with ⟨rfl, q2⟩ | ⟨z, q⟩
      · cases q2; exact ⟨_, a1, hd⟩
      · obtain ⟨v, b1, b2⟩ := r.im j d q
        exact ⟨v, b1, dp_mono hF _ _ b2⟩
    mu := fun j es q => by
      rcases st j _ q with ⟨_, q⟩ | ⟨z, q⟩
      · cases q
      · obtain ⟨ys, b1, b2, b3, b4, b5⟩ := r.mu j es q
        exact ⟨ys, b1, b2, dn _ (fun z' => z (r.inj _ _ _ _ q hi z')) b3, ow_mono hF b4, b5⟩
    bo := fun j es q => by
      rcases st j _ q with ⟨_, q⟩ | ⟨z, q⟩
      · cases q
      · obtain ⟨b0, ys, b1, b2, b3, b4⟩ := r.bo j es q
        exact ⟨b0, ys, b1, b2, dn _ (fun z' => r.nbo i ds hi b0 z'.symm) b3, ow_mono hF b4⟩
    hbo := r.hbo
    inj := fun j k es es' q q' => by
      rcases st j _ q with ⟨_, q⟩ | ⟨_, q⟩
      · cases q
      · rcases st k _ q' with ⟨_, q'⟩ | ⟨_, q'⟩
        · cases q'
        · exact r.inj j k es es' q q'
    nbo := fun j es q => by
      rcases st j _ q with ⟨_, q⟩ | ⟨_, q⟩
      · cases q
      · exact r.nbo j es q
    ubo := fun j k es es' q q' => by
      rcases st j _ q with ⟨_, q⟩ | ⟨_, q⟩
      · cases q
      · rcases st k _ q' with ⟨_, q'⟩ | ⟨_, q'⟩
        · cases q'
        · exact r.ubo j k es es' q q' }

theorem Rel.freeze {i : Nat} {ds : List D} {xs : List V} (r : Rel K w F ad σ H e) (hi : e[i]? = some (.mu (.lst ds))) (hH : H (ad i) = some (.lst xs)) :
    Rel K w (upd F (ad i) (.lst xs)) ad σ H (e.set i (.im (.list ds))) ∧ Same F (upd F (ad i) (.lst xs)) ∧ Dq K (upd F (ad i) (.lst xs)) (.ref (ad i)) (.list ds) ∧ σ[i]? = some (some (.ref (ad i))) :=
  r.freezeG hi hH fun F' h1 h2 => by
    cases h2 with
    | lst h => exact .lst (Rd.of h1) h

/-- what a frame may change -/
def ownE (e : Env) (ad : Nat → Addr) (w : Wd) : Addr → Prop := fun b => (∃ (i : Nat) (ds : Ow), e[i]? = some (.mu ds) ∧ ad i = b) ∨ (w.hb ∧ b = w.ba)
/-- the world as seen from here -/
def here (w : Wd) (F : Hp) (ad : Nat → Addr) (H : Hp) (e : Env) : Wd := { F0 := F, H0 := H, own := ownE e ad w, ba := w.ba, hb := w.hb }
theorem Rel.rebase (r : Rel K w F ad σ H e) : Rel K (here w F ad H e) F ad σ H e where
  sub := r.sub
  old := Same.refl F
  dom := fun b o q => ⟨o, q⟩
  fr := fun b o q1 q2 _ => ⟨q1, q2⟩
  len := r.len
  im := r.im
  mu := fun i ds q => by
    obtain ⟨xs, a1, a2, a3, a4, _⟩ := r.mu i ds q
    exact ⟨xs, a1, a2, a3, a4, .inr (.inl ⟨i, ds, q, rfl⟩)⟩
  bo := r.bo
  hbo := fun h => by
    obtain ⟨_, o, q⟩ := r.hbo h
    exact ⟨.inr ⟨h, rfl⟩, r.dom _ _ q⟩
  inj := r.inj
  nbo := r.nbo
  ubo := r.ubo
theorem Rel.back {F' : Hp} {ad' : Nat → Addr} {σ' : L2.St} {H' : Hp} {e' : Env} (r : Rel K w F ad σ H e) (q : Rel K (here w F ad H e) F' ad' σ' H' e') : Rel K w F' ad' σ' H' e' where
  sub := q.sub
  old := r.old.trans q.old
  dom := fun b o z => by obtain ⟨o', z'⟩ := r.dom b o z; exact q.dom b o' z'
  fr := fun b o z1 z2 z3 => by
    obtain ⟨y1, y2⟩ := r.fr b o z1 z2 z3
    refine q.fr b o y1 y2 fun z => ?_
    rcases z with ⟨i, ds, h1, h2⟩ | ⟨h1, h2⟩
    · subst h2
      obtain ⟨_, _, _, _, _, h⟩ := r.mu i ds h1
      rcases h with h | h
      · rw [h] at z1; cases z1
      · exact z3 h
    · subst h2; exact z3 (r.hbo h1).1
  len := q.len
  im := q.im
  mu := fun i ds z => by
    obtain ⟨xs, a1, a2, a3, a4, a5⟩ := q.mu i ds z
    refine ⟨xs, a1, a2, a3, a4, ?_⟩
    rcases a5 with a5 | a5
    · left
      cases h : w.H0 (ad' i) with
      | none => rfl
      | some o =>
        obtain ⟨o', h'⟩ := r.dom _ _ h
        have a5' : H (ad' i) = none := a5
        rw [h'] at a5'; cases a5'
    · rcases a5 with ⟨j, es, h1, h2⟩ | ⟨h1, h2⟩
      · obtain ⟨_, _, _, _, _, h⟩ := r.mu j es h1
        rw [h2] at h
        exact h
      · right; rw [h2]; exact (r.hbo h1).1
  bo := q.bo
  hbo := r.hbo
  inj := q.inj
  nbo := q.nbo
  ubo := q.ubo
/-- .. from a world with more known data -/
theorem Rel.known (r : Rel K w F ad σ H e) : Rel K { w with F0 := F } F ad σ H e where
  sub := r.sub
  old := Same.refl F
  dom := r.dom
  fr := fun b o q1 q2 q3 => r.fr b o q1 (by
    cases h : w.F0 b with
    | none => rfl
    | some u => have q2' : F b = none := q2
                rw [r.old b u h] at q2'; cases q2') q3
  len := r.len
  im := r.im
  mu := r.mu
  bo := r.bo
  hbo := r.hbo
  inj := r.inj
  nbo := r.nbo
  ubo := r.ubo
theorem Rel.unknown {F' : Hp} {ad' : Nat → Addr} {σ' : L2.St} {H' : Hp} {e' : Env} (r : Rel K w F ad σ H e) (q : Rel K { w with F0 := F } F' ad' σ' H' e') : Rel K w F' ad' σ' H' e' where
  sub := q.sub
  old := r.old.trans q.old
  dom := q.dom
  fr := fun b o z1 z2 z3 => q.fr b o z1 (r.fr b o z1 z2 z3).2 z3
  len := q.len
  im := q.im
  mu := q.mu
  bo := q.bo
  hbo := q.hbo
  inj := q.inj
  nbo := q.nbo
  ubo := q.ubo

/-- a slot is given a value -/
theorem Rel.set {i : Nat} {v : V} {d : D} (r : Rel K w F ad σ H e) (hd : Dq K F v d) : Rel K w F ad (σ.set i (some v)) H (e.set i (.im d)) := by
  have st : ∀ (j : Nat) (s : Sl), (e.set i (.im d))[j]? = some s → (j = i ∧ j < e.length ∧ s = .im d) ∨ (j ≠ i ∧ e[j]? = some s) := fun j s q => by
    rw [List.getElem?_set] at q
    by_cases z : i = j
    · subst z
      rw [if_pos rfl] at q
      by_cases l : i < e.length
      · rw [if_pos l] at q; exact .inl ⟨rfl, l, (Option.some.inj q).symm⟩
      · rw [if_neg l] at q; cases q
    · rw [if_neg z] at q
      exact .inr ⟨fun z' => z z'.symm, q⟩
  have sσ : ∀ j, j ≠ i → (σ.set i (some v))[j]? = σ[j]? := fun j z => by rw [List.getElem?_set, if_neg (fun z' => z z'.symm)]
  exact {
    sub := r.sub
    old := r.old
    dom := r.dom
    fr := r.fr
    len := by rw [List.length_set, List.length_set]; exact r.len
    im := fun j d' q => by
      rcases st j _ q with ⟨rfl, l, q2⟩ | ⟨z, q⟩
      · cases q2
        refine ⟨v, ?_, hd⟩
        rw [List.getElem?_set, if_pos rfl, if_pos (by rw [r.len]; exact l)]
      · obtain ⟨x, b1, b2⟩ := r.im j d' q
        exact ⟨x, (sσ j z).trans b1, b2⟩
    mu := fun j es q => by
      rcases st j _ q with ⟨_, _, q⟩ | ⟨z, q⟩
      · cases q
      · obtain ⟨ys, b1, b2⟩ := r.mu j es q
        exact ⟨ys, (sσ j z).trans b1, b2⟩
    bo := fun j es q => by
      rcases st j _ q with ⟨_, _, q⟩ | ⟨z, q⟩
      · cases q
      · obtain ⟨b0, ys, b1, b2⟩ := r.bo j es q
        exact ⟨b0, ys, (sσ j z).trans b1, b2⟩
    hbo := r.hbo
    inj := fun j k es es' q q' => by
      rcases st j _ q with ⟨_, _, q⟩ | ⟨_, q⟩
      · cases q
      · rcases st k _ q' with ⟨_, _, q'⟩ | ⟨_, q'⟩
        · cases q'
        · exact r.inj j k es es' q q'
    nbo := fun j es q => by
      rcases st j _ q with ⟨_, _, q⟩ | ⟨_, q⟩
      · cases q
      · exact r.nbo j es q
    ubo := fun j k es es' q q' => by
      rcases st j _ q with ⟨_, _, q⟩ | ⟨_, q⟩
      · cases q
      · rcases st k _ q' with ⟨_, _, q'⟩ | ⟨_, q'⟩
        · cases q'
        · exact r.ubo j k es es' q q' }

/-- a list at a that nobody else here holds -/
structure Fresh (w : Wd) (F : Hp) (ad : Nat → Addr) (e : Env) (a : Addr) : Prop where
  fF : F a = none
  f0 : w.H0 a = none
  fm : ∀ (i : Nat) (ds : Ow), e[i]? = some (.mu ds) → ad i ≠ a
  fb : w.hb → a ≠ w.ba

/-- a slot is given a list of its own -/
theorem Rel.setMu {i : Nat} {a : Addr} {xs : HO} {ds : Ow} (r : Rel K w F ad σ H e) (hH : H a = some xs) (f : Fresh w F ad e a) (hd : OwR K F xs ds) :
    Rel K w F (fun j => if j = i then a else ad j) (σ.set i (some (.ref a))) H (e.set i (.mu ds)) := by
  have st : ∀ (j : Nat) (s : Sl), (e.set i (.mu ds))[j]? = some s → (j = i ∧ j < e.length ∧ s = .mu ds) ∨ (j ≠ i ∧ e[j]? = some s) := fun j s q => by
    rw [List.getElem?_set] at q
    by_cases z : i = j
    · subst z
      rw [if_pos rfl] at q
      by_cases l : i < e.length
      · rw [if_pos l] at q; exact .inl ⟨rfl, l, (Option.some.inj q).symm⟩
      · rw [if_neg l] at q; cases q
    · rw [if_neg z] at q
      exact .inr ⟨fun z' => z z'.symm, q⟩
  have sσ : ∀ j, j ≠ i → (σ.set i (some (.ref a)))[j]? = σ[j]? := fun j z => by rw [List.getElem?_set, if_neg (fun z' => z z'.symm)]
  exact {
    sub := r.sub
    old := r.old
    dom := r.dom
    fr := r.fr
    len := by rw [List.length_set, List.length_set]; exact r.len
    im := fun j d' q => by
      rcases st j _ q with ⟨_, _, q⟩ | ⟨z, q⟩
      · cases q
      · obtain ⟨x, b1, b2⟩ := r.im j d' q
        exact ⟨x, (sσ j z).trans b1, b2⟩
    mu := fun j es q => by
      rcases st j _ q with ⟨rfl, l, q2⟩ | ⟨z, q⟩
      · cases q2
        refine ⟨xs, ?_⟩
        rw [if_pos rfl]
        refine ⟨?_, hH, f.fF, hd, .inl f.f0⟩
        rw [List.getElem?_set, if_pos rfl, if_pos (by rw [r.len]; exact l)]
      · obtain ⟨ys, b1, b2⟩ := r.mu j es q
        rw [if_neg z]
        exact ⟨ys, (sσ j z).trans b1, b2⟩
    bo := fun j es q => by
      rcases st j _ q with ⟨_, _, q⟩ | ⟨z, q⟩
      · cases q
      · obtain ⟨b0, ys, b1, b2⟩ := r.bo j es q
        exact ⟨b0, ys, (sσ j z).trans b1, b2⟩
    hbo := r.hbo
    inj := fun j k es es' q q' z => by
      rcases st j _ q with ⟨ej, _, _⟩ | ⟨zj, q2⟩
      · rcases st k _ q' with ⟨ek, _, _⟩ | ⟨zk, q2'⟩
        · rw [ej, ek]
        · rw [if_pos ej, if_neg zk] at z
          exact absurd z.symm (f.fm k es' q2')
      · rcases st k _ q' with ⟨ek, _, _⟩ | ⟨zk, q2'⟩
        · rw [if_pos ek, if_neg zj] at z
          exact absurd z (f.fm j es q2)
        · rw [if_neg zj, if_neg zk] at z
          exact r.inj j k es es' q2 q2' z
    nbo := fun j es q hb => by
      rcases st j _ q with ⟨rfl, _, q⟩ | ⟨z, q⟩
      · rw [if_pos rfl]; exact f.fb hb
      · rw [if_neg z]; exact r.nbo j es q hb
    ubo := fun j k es es' q q' => by
      rcases st j _ q with ⟨_, _, q⟩ | ⟨_, q⟩
      · cases q
      · rcases st k _ q' with ⟨_, _, q'⟩ | ⟨_, q'⟩
        · cases q'
        · exact r.ubo j k es es' q q' }

/-- a slot's own list is changed in place -/
theorem Rel.mutate {i : Nat} {ds ds' : Ow} {ys : HO} (r : Rel K w F ad σ H e) (hi : e[i]? = some (.mu ds)) (hd : OwR K F ys ds') :
    Rel K w F ad σ (upd H (ad i) ys) (e.set i (.mu ds')) := by
  obtain ⟨xs, a1, a2, a3, a4, a5⟩ := r.mu i ds hi
  have hlt : i < e.length := (List.getElem?_eq_some_iff.mp hi).1
  have st : ∀ (j : Nat) (s : Sl), (e.set i (.mu ds'))[j]? = some s → (j = i ∧ s = .mu ds') ∨ (j ≠ i ∧ e[j]? = some s) := fun j s q => by
    rw [List.getElem?_set] at q
    by_cases z : i = j
    · subst z
      rw [if_pos rfl, if_pos hlt] at q
      exact .inl ⟨rfl, (Option.some.inj q).symm⟩
    · rw [if_neg z] at q
      exact .inr ⟨fun z' => z z'.symm, q⟩
  have old : ∀ (j : Nat) es, (e.set i (.mu ds'))[j]? = some (.mu es) → ∃ es', e[j]? = some (.mu es') := fun j es q => by
    rcases st j _ q with ⟨rfl, _⟩ | ⟨_, q⟩
    · exact ⟨ds, hi⟩
    · exact ⟨es, q⟩
  exact {
    sub := fun b u q => by
      rw [upd_ne (fun z => by subst z; rw [a3] at q; cases q)]
      exact r.sub b u q
    old := r.old
    dom := fun b u q => by
      obtain ⟨u', q'⟩ := r.dom b u q
      by_cases z : b = ad i
      · subst z; exact ⟨_, upd_same⟩
      · exact ⟨u', by rw [upd_ne z]; exact q'⟩
    fr := fun b u q1 q2 q3 => by
      obtain ⟨b1, b2⟩ := r.fr b u q1 q2 q3
      refine ⟨?_, b2⟩
      rw [upd_ne (fun z => ?_)]
      · exact b1
      · subst z
        rcases a5 with a5 | a5
        · rw [a5] at q1; cases q1
        · exact q3 a5
    len := by rw [List.length_set]; exact r.len
    im := fun j d q => by
      rcases st j _ q with ⟨_, q⟩ | ⟨z, q⟩
      · cases q
      · exact r.im j d q
    mu := fun j es q => by
      rcases st j _ q with ⟨rfl, q2⟩ | ⟨z, q⟩
      · cases q2; exact ⟨ys, a1, upd_same, a3, hd, a5⟩
      · obtain ⟨zs, b1, b2, b3, b4, b5⟩ := r.mu j es q
        exact ⟨zs, b1, by rw [upd_ne (fun z' => z (r.inj _ _ _ _ q hi z'))]; exact b2, b3, b4, b5⟩
    bo := fun j es q => by
      rcases st j _ q with ⟨_, q⟩ | ⟨z, q⟩
      · cases q
      · obtain ⟨b0, zs, b1, b2, b3, b4⟩ := r.bo j es q
        exact ⟨b0, zs, b1, by rw [upd_ne (fun z' => r.nbo i ds hi b0 z'.symm)]; exact b2, b3, b4⟩
    hbo := r.hbo
    inj := fun j k es es' q q' => by
      obtain ⟨es1, q⟩ := old j es q
      obtain ⟨es2, q'⟩ := old k es' q'
      exact r.inj j k _ _ q q'
    nbo := fun j es q => by
      obtain ⟨es1, q⟩ := old j es q
      exact r.nbo j _ q
    ubo := fun j k es es' q q' => by
      rcases st j _ q with ⟨_, q⟩ | ⟨_, q⟩
      · cases q
      · rcases st k _ q' with ⟨_, q'⟩ | ⟨_, q'⟩
        · cases q'
        · exact r.ubo j k es es' q q' }
/-- the lent list is changed in place -/
theorem Rel.mutateBo {i : Nat} {ds ds' : Ow} {ys : HO} (r : Rel K w F ad σ H e) (hi : e[i]? = some (.bo ds)) (hd : OwR K F ys ds') :
    Rel K w F ad σ (upd H w.ba ys) (e.set i (.bo ds')) := by
  obtain ⟨a0, xs, a1, a2, a3, a4⟩ := r.bo i ds hi
  have hlt : i < e.length := (List.getElem?_eq_some_iff.mp hi).1
  have st : ∀ (j : Nat) (s : Sl), (e.set i (.bo ds'))[j]? = some s → (j = i ∧ s = .bo ds') ∨ (j ≠ i ∧ e[j]? = some s) := fun j s q => by
    rw [List.getElem?_set] at q
    by_cases z : i = j
    · subst z
      rw [if_pos rfl, if_pos hlt] at q
      exact .inl ⟨rfl, (Option.some.inj q).symm⟩
    · rw [if_neg z] at q
      exact .inr ⟨fun z' => z z'.symm, q⟩
  exact {
    sub := fun b u q => by
      rw [upd_ne (fun z => by subst z; rw [a3] at q; cases q)]
      exact r.sub b u q
    old := r.old
    dom := fun b u q => by
      obtain ⟨u', q'⟩ := r.dom b u q
      by_cases z : b = w.ba
      · subst z; exact ⟨_, upd_same⟩
      · exact ⟨u', by rw [upd_ne z]; exact q'⟩
    fr := fun b u q1 q2 q3 => by
      obtain ⟨b1, b2⟩ := r.fr b u q1 q2 q3
      refine ⟨?_, b2⟩
      rw [upd_ne (fun z => ?_)]
      · exact b1
      · subst z; exact q3 (r.hbo a0).1
    len := by rw [List.length_set]; exact r.len
    im := fun j d q => by
      rcases st j _ q with ⟨_, q⟩ | ⟨z, q⟩
      · cases q
      · exact r.im j d q
    mu := fun j es q => by
      rcases st j _ q with ⟨_, q⟩ | ⟨z, q⟩
      · cases q
      · obtain ⟨zs, b1, b2, b3⟩ := r.mu j es q
        exact ⟨zs, b1, by rw [upd_ne (r.nbo j es q a0)]; exact b2, b3⟩
    bo := fun j es q => by
      rcases st j _ q with ⟨rfl, q2⟩ | ⟨z, q⟩
      · cases q2; exact ⟨a0, ys, a1, upd_same, a3, hd⟩
      · exact absurd (r.ubo j i es ds q hi) z
    hbo := r.hbo
    inj := fun j k es es' q q' => by
      rcases st j _ q with ⟨_, q⟩ | ⟨_, q⟩
      · cases q
      · rcases st k _ q' with ⟨_, q'⟩ | ⟨_, q'⟩
        · cases q'
        · exact r.inj j k es es' q q'
    nbo := fun j es q => by
      rcases st j _ q with ⟨_, q⟩ | ⟨_, q⟩
      · cases q
      · exact r.nbo j es q
    ubo := fun j k es es' q q' => by
      rcases st j _ q with ⟨ej, _⟩ | ⟨zj, q2⟩
      · rcases st k _ q' with ⟨ek, _⟩ | ⟨zk, q2'⟩
        · rw [ej, ek]
        · rw [ej]; exact r.ubo i k ds es' hi q2'
      · rcases st k _ q' with ⟨ek, _⟩ | ⟨zk, q2'⟩
        · rw [ek]; exact r.ubo j i es ds q2 hi
        · exact r.ubo j k es es' q2 q2' }
/-- slots are forgotten -/
theorem Rel.forget {σ' : L2.St} {e' : Env} (r : Rel K w F ad σ H e) (hl : σ'.length = e'.length) (h : ∀ (j : Nat) (s : Sl), e'[j]? = some s → s = .un ∨ (e[j]? = some s ∧ σ'[j]? = σ[j]?)) : Rel K w F ad σ' H e' where
  sub := r.sub
  old := r.old
  dom := r.dom
  fr := r.fr
  len := hl
  im := fun j d q => by
    rcases h j _ q with z | ⟨z, z'⟩
    · cases z
    · rw [z']; exact r.im j d z
  mu := fun j es q => by
    rcases h j _ q with z | ⟨z, z'⟩
    · cases z
    · rw [z']; exact r.mu j es z
  bo := fun j es q => by
    rcases h j _ q with z | ⟨z, z'⟩
    · cases z
    · rw [z']; exact r.bo j es z
  hbo := r.hbo
  inj := fun j k es es' q q' => by
    rcases h j _ q with z | ⟨z, _⟩
    · cases z
    · rcases h k _ q' with z' | ⟨z', _⟩
      · cases z'
      · exact r.inj j k es es' z z'
  nbo := fun j es q => by
    rcases h j _ q with z | ⟨z, _⟩
    · cases z
    · exact r.nbo j es z
  ubo := fun j k es es' q q' => by
    rcases h j _ q with z | ⟨z, _⟩
    · cases z
    · rcases h k _ q' with z' | ⟨z', _⟩
      · cases z'
      · exact r.ubo j k es es' z z'
end
end DL

/-! The D layer, part 2: rules of expressions and statements over pure data. -/
namespace DL
open PySem PySem.Spec PyProof.Rows L2

abbrev DT := Env → (D → Env → Prop) → Prop
abbrev DB := Env → (Bool → Env → Prop) → Prop
abbrev DA := Env → (List D → Env → Prop) → Prop
abbrev DO := Env → (Option Int → Env → Prop) → Prop
abbrev DTg := D → Env → (Env → Prop) → Prop
abbrev DTgs := List D → Env → (Env → Prop) → Prop
structure DEnds where
  nx : Env → Prop
  rt : D → Env → Prop
  rf : Ow → Env → Prop := fun _ _ => False
  bk : Env → Prop := fun _ => False
  ct : Env → Prop := fun _ => False
abbrev DSt := DEnds → Env → Prop
abbrev DF := Env → (Ow → Env → Prop) → Prop
structure DEnds.le (A B : DEnds) : Prop where
  nx : ∀ e, A.nx e → B.nx e
  rt : ∀ d e, A.rt d e → B.rt d e
  rf : ∀ d e, A.rf d e → B.rf d e
  bk : ∀ e, A.bk e → B.bk e
  ct : ∀ e, A.ct e → B.ct e

/-! ### lifts -/
def EL (K : PySem.W.Frag) (w : Wd) (f : DT) : TE := fun σ H Q => ∃ F ad e, Rel K w F ad σ H e ∧ f e fun d e' => ∀ F' ad' H' v, Same F F' → Rel K w F' ad' σ H' e' → Dq K F' v d → Q v H'
def CL (K : PySem.W.Frag) (w : Wd) (f : DB) : TT := fun σ H Q => ∃ F ad e, Rel K w F ad σ H e ∧ f e fun b e' => ∀ F' ad' H', Same F F' → Rel K w F' ad' σ H' e' → Q b H'
def AL (K : PySem.W.Frag) (w : Wd) (f : DA) : TA := fun σ H Q => ∃ F ad e, Rel K w F ad σ H e ∧ f e fun ds e' => ∀ F' ad' H' vs, Same F F' → Rel K w F' ad' σ H' e' → DqAll K F' vs ds → Q vs H'
def OL (K : PySem.W.Frag) (w : Wd) (f : DO) : TO := fun σ H Q => ∃ F ad e, Rel K w F ad σ H e ∧ f e fun o e' => ∀ F' ad' H', Same F F' → Rel K w F' ad' σ H' e' → Q o H'
/-- an expression that gives a list that nobody else holds -/
def FL (K : PySem.W.Frag) (w : Wd) (f : DF) : TE := fun σ H Q => ∃ F ad e, Rel K w F ad σ H e ∧ f e fun o e' => ∀ F' ad' H' a xs, Same F F' → Rel K w F' ad' σ H' e' → H' a = some xs → Fresh w F' ad' e' a → OwR K F' xs o → Q (.ref a) H'
def GL (K : PySem.W.Frag) (w : Wd) (g : DTg) : TG := fun v σ H Q => ∃ F ad e d, Rel K w F ad σ H e ∧ Dq K F v d ∧ g d e fun e' => ∀ F' ad' σ' H', Same F F' → Rel K w F' ad' σ' H' e' → Q σ' H'
def GsL (K : PySem.W.Frag) (w : Wd) (g : DTgs) : TGs := fun vs σ H Q => ∃ F ad e ds, Rel K w F ad σ H e ∧ DqAll K F vs ds ∧ g ds e fun e' => ∀ F' ad' σ' H', Same F F' → Rel K w F' ad' σ' H' e' → Q σ' H'
def endL (K : PySem.W.Frag) (w : Wd) (D : Ends) : DEnds where
  nx := fun e' => ∀ F' ad' σ' H', Rel K w F' ad' σ' H' e' → D.nx σ' H'
  rt := fun d e' => ∀ F' ad' σ' H' v, Rel K w F' ad' σ' H' e' → Dq K F' v d → D.rt v H'
  rf := fun ds e' => ∀ F' ad' σ' H' a xs, Rel K w F' ad' σ' H' e' → H' a = some xs → Fresh w F' ad' e' a → OwR K F' xs ds → D.rt (.ref a) H'
  bk := fun e' => ∀ F' ad' σ' H', Rel K w F' ad' σ' H' e' → D.bk σ' H'
  ct := fun e' => ∀ F' ad' σ' H', Rel K w F' ad' σ' H' e' → D.ct σ' H'
def SL (K : PySem.W.Frag) (w : Wd) (t : DSt) : TS := fun D σ H => ∃ F ad e, Rel K w F ad σ H e ∧ t (endL K w D) e

/-! ### judgements -/
structure DE (X : Cx) (x : Expr) (f : DT) : Prop where
  run : ∀ w, PE X x (EL X.K w f)
  mono : ∀ e (Q Q' : D → Env → Prop), (∀ d e', Q d e' → Q' d e') → f e Q → f e Q'
structure DTe (X : Cx) (x : Expr) (f : DB) : Prop where
  run : ∀ w, PT X x (CL X.K w f)
  mono : ∀ e (Q Q' : Bool → Env → Prop), (∀ d e', Q d e' → Q' d e') → f e Q → f e Q'
structure DW (X : Cx) (x : Expr) (f : DB) : Prop where
  run : ∀ w, PW X x (CL X.K w f)
  mono : ∀ e (Q Q' : Bool → Env → Prop), (∀ d e', Q d e' → Q' d e') → f e Q → f e Q'
structure DAr (X : Cx) (xs : List Expr) (f : DA) : Prop where
  run : ∀ w, PA X xs (AL X.K w f)
  mono : ∀ e (Q Q' : List D → Env → Prop), (∀ d e', Q d e' → Q' d e') → f e Q → f e Q'
structure DFe (X : Cx) (x : Expr) (f : DF) : Prop where
  run : ∀ w, PE X x (FL X.K w f)
  mono : ∀ e (Q Q' : Ow → Env → Prop), (∀ d e', Q d e' → Q' d e') → f e Q → f e Q'
structure DOp (X : Cx) (x : Option Expr) (f : DO) : Prop where
  run : ∀ w, PO X x (OL X.K w f)
  mono : ∀ e (Q Q' : Option Int → Env → Prop), (∀ d e', Q d e' → Q' d e') → f e Q → f e Q'
structure DG (X : Cx) (x : Expr) (g : DTg) : Prop where
  run : ∀ w, PG X x (GL X.K w g)
  mono : ∀ d e (Q Q' : Env → Prop), (∀ e', Q e' → Q' e') → g d e Q → g d e Q'
structure DGs (X : Cx) (xs : List Expr) (g : DTgs) : Prop where
  run : ∀ w, PGs X xs (GsL X.K w g)
  mono : ∀ d e (Q Q' : Env → Prop), (∀ e', Q e' → Q' e') → g d e Q → g d e Q'
structure DS (X : Cx) (s : Stmt) (t : DSt) : Prop where
  run : ∀ w, PS X s (SL X.K w t)
  mono : ∀ (A B : DEnds) e, A.le B → t A e → t B e
structure DSs (X : Cx) (s : List Stmt) (t : DSt) : Prop where
  run : ∀ w, PSs X s (SL X.K w t)
  mono : ∀ (A B : DEnds) e, A.le B → t A e → t B e

/-! ### weaker readings -/
theorem PE.imp {X : Cx} {x : Expr} {t t' : TE} (h : PE X x t) (i : ∀ σ H Q, t' σ H Q → t σ H Q) : PE X x t' := ⟨fun p s σ H Q I q => h.run p s σ H Q I (i σ H Q q)⟩
theorem PT.imp {X : Cx} {x : Expr} {t t' : TT} (h : PT X x t) (i : ∀ σ H Q, t' σ H Q → t σ H Q) : PT X x t' := ⟨fun p s σ H Q I q => h.run p s σ H Q I (i σ H Q q)⟩
theorem PW.imp {X : Cx} {x : Expr} {t t' : TT} (h : PW X x t) (i : ∀ σ H Q, t' σ H Q → t σ H Q) : PW X x t' := ⟨fun wh p s σ H Q I q => h.run wh p s σ H Q I (i σ H Q q)⟩
theorem PA.imp {X : Cx} {x : List Expr} {t t' : TA} (h : PA X x t) (i : ∀ σ H Q, t' σ H Q → t σ H Q) : PA X x t' := ⟨fun pos p s σ H Q I q => h.run pos p s σ H Q I (i σ H Q q)⟩
theorem PO.imp {X : Cx} {x : Option Expr} {t t' : TO} (h : PO X x t) (i : ∀ σ H Q, t' σ H Q → t σ H Q) : PO X x t' := ⟨fun p s σ H Q I q => h.run p s σ H Q I (i σ H Q q)⟩
theorem PS.imp {X : Cx} {x : Stmt} {t t' : TS} (h : PS X x t) (i : ∀ D σ H, t' D σ H → t D σ H) : PS X x t' := ⟨fun p s σ H D I q => h.run p s σ H D I (i D σ H q)⟩
theorem PSs.imp {X : Cx} {x : List Stmt} {t t' : TS} (h : PSs X x t) (i : ∀ D σ H, t' D σ H → t D σ H) : PSs X x t' := ⟨fun p s σ H D I q => h.run p s σ H D I (i D σ H q)⟩
theorem PG.imp {X : Cx} {x : Expr} {t t' : TG} (h : PG X x t) (i : ∀ v σ H Q, t' v σ H Q → t v σ H Q) : PG X x t' := ⟨fun p s σ H v u Q I r q => h.run p s σ H v u Q I r (i v σ H Q q)⟩
theorem PGs.imp {X : Cx} {x : List Expr} {t t' : TGs} (h : PGs X x t) (i : ∀ v σ H Q, t' v σ H Q → t v σ H Q) : PGs X x t' := ⟨fun p s σ H v u Q I r q => h.run p s σ H v u Q I r (i v σ H Q q)⟩

/-- nothing, or one new thing -/
def Grow (F H F' H' : Hp) : Prop := (F' = F ∧ H' = H) ∨ ∃ p o, H p = none ∧ F' = upd F p o ∧ H' = upd H p o
theorem Grow.refl {F H : Hp} : Grow F H F H := .inl ⟨rfl, rfl⟩
theorem Grow.one {F H : Hp} {p : Addr} {o : HO} (h : H p = none) : Grow F H (upd F p o) (upd H p o) := .inr ⟨p, o, h, rfl, rfl⟩
theorem Grow.same {F H F' H' : Hp} (g : Grow F H F' H') (s : Same F H) : Same F F' := by
  rcases g with ⟨rfl, rfl⟩ | ⟨p, o, h, rfl, rfl⟩
  · exact Same.refl _
  · exact same_upd s h
theorem Grow.rel {K : PySem.W.Frag} {w : Wd} {F H F' H' : Hp} {ad : Nat → Addr} {σ : L2.St} {e : Env} (g : Grow F H F' H') (r : Rel K w F ad σ H e) : Rel K w F' ad σ H' e := by
  rcases g with ⟨rfl, rfl⟩ | ⟨p, o, h, rfl, rfl⟩
  · exact r
  · exact r.grow h

section
variable {X : Cx} {x y a b c : Expr} {f g h : DT} {t u : DB} {pos : Pos}

/-! ### constants and names -/
def dC (d : D) : DT := fun e Q => Q d e
theorem de_int {i j} : DE X (.Constant (.int i) j pos) (dC (.int i)) := ⟨fun w => PE.imp pe_int fun σ H Q ⟨F, ad, e, R, q⟩ => q F ad H _ (Same.refl F) R (.int i), fun _ _ _ m q => m _ _ q⟩
theorem de_bl {k j} : DE X (.Constant (.bool k) j pos) (dC (.bool k)) := ⟨fun w => PE.imp pe_bl fun σ H Q ⟨F, ad, e, R, q⟩ => q F ad H _ (Same.refl F) R (.bl k), fun _ _ _ m q => m _ _ q⟩
theorem de_non {j} : DE X (.Constant .none j pos) (dC .none) := ⟨fun w => PE.imp pe_non fun σ H Q ⟨F, ad, e, R, q⟩ => q F ad H _ (Same.refl F) R .non, fun _ _ _ m q => m _ _ q⟩
theorem de_str {z j} : DE X (.Constant (.str z) j pos) (dC (.str z)) := ⟨fun w => PE.imp pe_str fun σ H Q ⟨F, ad, e, R, q⟩ => q F ad H _ (Same.refl F) R (.str z), fun _ _ _ m q => m _ _ q⟩
/-- a global constant -/
theorem de_glob {v : V} {d : D} (hp : PE X x (tC v)) (hd : ∀ F, Dq X.K F v d) : DE X x (dC d) := ⟨fun w => PE.imp hp fun σ H Q ⟨F, ad, e, R, q⟩ => q F ad H _ (Same.refl F) R (hd F), fun _ _ _ m q => m _ _ q⟩

/-- what a place of one's own is as data -/
def owD : Ow → Option D
  | .lst ds => some (.list ds)
  | .dct kvs => some (.dict (kvs.map fun p => (kD p.1, p.2)))
  | _ => none
theorem kvs_dq {K : PySem.W.Frag} {F : Hp} : ∀ {xs : List (Key × V)} {ds : List (Key × D)}, KvR K F xs ds → DqKv K F xs (ds.map fun p => (kD p.1, p.2))
  | _, _, .nil => .nil
  | _, _, .cons h t => .cons rfl h (kvs_dq t)
/-- behind it the thing may be locked for good -/
def tMay (t : TE) : TE := fun σ H Q => t σ H fun v H1 => Q v H1 ∨ ∃ d u, v = .ref d ∧ H1 d = some u ∧ Mut (some u) ∧ ∀ od, Q v (upd H1 d (.frz od u))
theorem pe_may {X : Cx} {x : Expr} {t : TE} (h : PE X x t) : PE X x (tMay t) := by
  refine ⟨fun pins s σ H Q I q => ?_⟩
  refine thn (h.run pins s σ H _ I q) fun v s1 ⟨y, H1, I1, r1, q1⟩ => ?_
  rcases q1 with q1 | ⟨d, u, rfl, hd, mu, q1⟩
  · exact ⟨y, H1, I1, r1, q1⟩
  · obtain ⟨od, I2⟩ := I1.lock hd mu
    exact ⟨_, _, I2, r1, q1 od⟩
/-- a place of one's own becomes data -/
theorem Rel.data {K : PySem.W.Frag} {w : Wd} {F : Hp} {ad : Nat → Addr} {σ : L2.St} {H : Hp} {e : Env} {i : Nat} {o : Ow} {d : D} (R : Rel K w F ad σ H e) (hi : e[i]? = some (.mu o)) (hd : owD o = some d) :
    σ[i]? = some (some (.ref (ad i))) ∧ ((∃ F', Same F F' ∧ Rel K w F' ad σ H (e.set i (.im d)) ∧ Dq K F' (.ref (ad i)) d) ∨
      ∃ u, H (ad i) = some u ∧ Mut (some u) ∧ ∀ od, ∃ F', Same F F' ∧ Rel K w F' ad σ (upd H (ad i) (.frz od u)) (e.set i (.im d)) ∧ Dq K F' (.ref (ad i)) d) := by
  obtain ⟨ho, s1, s2, s3, s4, _⟩ := R.mu i o hi
  cases s4 with
  | lst r =>
    cases hd
    obtain ⟨R2, sm, dp, _⟩ := R.freeze hi s2
    exact ⟨s1, .inl ⟨_, sm, R2, dp⟩⟩
  | @dct xs ds r =>
    cases hd
    refine ⟨s1, .inr ⟨_, s2, trivial, fun od => ?_⟩⟩
    have R1 := R.mutate (ys := .frz od (.dK xs)) (ds' := .dctZ ds) hi (.dctZ r)
    have hi1 : (e.set i (.mu (.dctZ ds)))[i]? = some (.mu (.dctZ ds)) := by
      rw [List.getElem?_set, if_pos rfl, if_pos (List.getElem?_eq_some_iff.mp hi).1]
    obtain ⟨R2, sm, dp, _⟩ := R1.freezeG (dd := .dict (ds.map fun p => (kD p.1, p.2))) hi1 upd_same (fun F' z r' => by
      cases r' with
      | dctZ r' => exact .dct z (kvs_dq r'))
    rw [List.set_set] at R2
    exact ⟨_, sm, R2, dp⟩
  | dtu r => cases hd
  | dctZ r => cases hd
  | set => cases hd
def dVar (i : Nat) : DT := fun e Q => match e[i]? with
  | some (.im d) => Q d e
  | some (.mu o) => match owD o with
    | some d => Q d (e.set i (.im d))
    | none => False
  | _ => False
theorem de_var (i : Nat) (hp : PE X x (tVar i)) : DE X x (dVar i) := by
  refine ⟨fun w => PE.imp (pe_may hp) fun σ H Q ⟨F, ad, e, R, q⟩ => ?_, fun e Q Q' m q => ?_⟩
  · unfold dVar at q
    split at q
    · rename_i d he
      obtain ⟨v, s1, s2⟩ := R.im i d he
      exact ⟨v, s1, .inl (q F ad H v (Same.refl F) R s2)⟩
    · rename_i o he
      split at q
      · rename_i d hd
        obtain ⟨s1, ⟨F', sm, R2, dp⟩ | ⟨u, hu, mu, k⟩⟩ := R.data he hd
        · exact ⟨_, s1, .inl (q F' ad H _ sm R2 dp)⟩
        · refine ⟨_, s1, .inr ⟨_, u, rfl, hu, mu, fun od => ?_⟩⟩
          obtain ⟨F', sm, R2, dp⟩ := k od
          exact q F' ad _ _ sm R2 dp
      · exact q.elim
    · exact q.elim
  · unfold dVar at q ⊢
    split at q
    · exact m _ _ q
    · split at q
      · exact m _ _ q
      · exact q.elim
    · exact q.elim

/-! ### operators -/
abbrev G2 := D → D → (D → Prop) → Prop
structure OpD (K : PySem.W.Frag) (r : R2) (g : G2) : Prop where
  run : ∀ (F H : Hp) (x y : V) (d1 d2 : D) (Q : VK), Same F H → Dq K F x d1 → Dq K F y d2 → g d1 d2 (fun d => ∀ v F' H', Grow F H F' H' → Dq K F' v d → Q v H') → r x y H Q
  mono : ∀ d1 d2 (P P' : D → Prop), (∀ d, P d → P' d) → g d1 d2 P → g d1 d2 P'
def dBin (g : G2) (f h : DT) : DT := fun e Q => f e fun d1 e1 => h e1 fun d2 e2 => g d1 d2 fun d => Q d e2
theorem dBin_mono {g : G2} (hg : ∀ d1 d2 (P P' : D → Prop), (∀ d, P d → P' d) → g d1 d2 P → g d1 d2 P') (ha : DE X a f) (hb : DE X b h) : ∀ e (Q Q' : D → Env → Prop), (∀ d e', Q d e' → Q' d e') → dBin g f h e Q → dBin g f h e Q' :=
  fun e Q Q' m q => ha.mono _ _ _ (fun d1 e1 q1 => hb.mono _ _ _ (fun d2 e2 q2 => hg _ _ _ _ (fun d q3 => m _ _ q3) q2) q1) q
theorem bin_imp {r : R2} {g : G2} (hg : OpD X.K r g) (ha : DE X a f) (hb : DE X b h) (w : Wd) : ∀ σ H Q, EL X.K w (dBin g f h) σ H Q → tOp r (EL X.K w f) (EL X.K w h) σ H Q := by
  rintro σ H Q ⟨F, ad, e, R, q⟩
  refine ⟨F, ad, e, R, ha.mono _ _ _ (fun d1 e1 q1 F1 ad1 H1 v1 s1 R1 p1 => ?_) q⟩
  refine ⟨F1, ad1, e1, R1, hb.mono _ _ _ (fun d2 e2 q2 F2 ad2 H2 v2 s2 R2 p2 => ?_) q1⟩
  refine hg.run F2 H2 v1 v2 d1 d2 Q R2.sub (dp_mono s2 _ _ p1) p2 (hg.mono _ _ _ _ (fun d q3 v F3 H3 gr p3 => ?_) q2)
  exact q3 F3 ad2 H3 v (s1.trans (s2.trans (gr.same R2.sub))) (gr.rel R2) p3
theorem de_bin {op : Operator} {r : R2} {g : G2} (ho : OpR X (binaryOp op) r) (hg : OpD X.K r g) (ha : DE X a f) (hb : DE X b h) : DE X (.BinOp a op b pos) (dBin g f h) :=
  ⟨fun w => PE.imp (pe_op ho (ha.run w) (hb.run w)) (bin_imp hg ha hb w), dBin_mono hg.mono ha hb⟩
theorem de_cmp {op : CmpOp} {r : R2} {g : G2} (ho : OpR X (compareOp op) r) (hg : OpD X.K r g) (ha : DE X a f) (hb : DE X b h) (hm : behindInMarks op b = false) : DE X (.Compare a [op] [b] pos) (dBin g f h) :=
  ⟨fun w => PE.imp (pe_cmpR ho (ha.run w) (hb.run w) hm) (bin_imp hg ha hb w), dBin_mono hg.mono ha hb⟩
/-- a value that is a bool, as a test -/
def dB (f : DT) : DB := fun e Q => f e fun d e' => match d with
  | .bool k => Q k e'
  | _ => False
theorem dB_mono (hm : ∀ e (Q Q' : D → Env → Prop), (∀ d e', Q d e' → Q' d e') → f e Q → f e Q') : ∀ e (Q Q' : Bool → Env → Prop), (∀ d e', Q d e' → Q' d e') → dB f e Q → dB f e Q' :=
  fun e Q Q' m q => hm _ _ _ (fun d e1 q1 => by
    cases d with
    | bool k => exact m _ _ q1
    | _ => exact q1.elim) q
theorem test_imp {t : TE} {w : Wd} (h : ∀ σ H Q, EL X.K w f σ H Q → t σ H Q) (hm : ∀ e (Q Q' : D → Env → Prop), (∀ d e', Q d e' → Q' d e') → f e Q → f e Q') : ∀ σ H Q, CL X.K w (dB f) σ H Q → (t σ H fun x H' => ∃ k, x = .bl k ∧ Q k H') := by
  rintro σ H Q ⟨F, ad, e, R, q⟩
  refine h σ H _ ⟨F, ad, e, R, hm _ _ _ (fun d e1 q1 F1 ad1 H1 v1 s1 R1 p1 => ?_) q⟩
  cases d with
  | bool k => exact ⟨k, dp_bool p1, q1 F1 ad1 H1 s1 R1⟩
  | _ => exact q1.elim
theorem dt_cmp {op : CmpOp} {r : R2} {g : G2} (ho : OpR X (compareOp op) r) (hg : OpD X.K r g) (ha : DE X a f) (hb : DE X b h) (hm : behindInMarks op b = false) : DTe X (.Compare a [op] [b] pos) (dB (dBin g f h)) :=
  ⟨fun w => PT.imp (pt_cmpR ho (ha.run w) (hb.run w) hm) (test_imp (bin_imp hg ha hb w) (dBin_mono hg.mono ha hb)), dB_mono (dBin_mono hg.mono ha hb)⟩
theorem dt_val (ha : DE X a f) (he : ∀ whole, isTrue a X.env whole = (do let v ← whole; standAt a.pos; holding [v] (truthy v)) := by intro _; rfl) : DTe X a (dB f) :=
  ⟨fun w => PT.imp (pt_val (ha.run w) he) (test_imp (fun _ _ _ q => q) ha.mono), dB_mono ha.mono⟩
/-- a op b op' c -/
def dChain (g g' : G2) (f h k : DT) : DT := fun e Q => f e fun d1 e1 => h e1 fun d2 e2 => g d1 d2 fun z => match z with
  | .bool true => k e2 fun d3 e3 => g' d2 d3 fun d => Q d e3
  | .bool false => Q (.bool false) e2
  | _ => False
theorem dChain_mono {g g' : G2} {k : DT} (hg : ∀ d1 d2 (P P' : D → Prop), (∀ d, P d → P' d) → g d1 d2 P → g d1 d2 P') (hg' : ∀ d1 d2 (P P' : D → Prop), (∀ d, P d → P' d) → g' d1 d2 P → g' d1 d2 P') (ha : DE X a f) (hb : DE X b h) (hc : DE X c k) : ∀ e (Q Q' : D → Env → Prop), (∀ d e', Q d e' → Q' d e') → dChain g g' f h k e Q → dChain g g' f h k e Q' :=
  fun e Q Q' m q => ha.mono _ _ _ (fun d1 e1 q1 => hb.mono _ _ _ (fun d2 e2 q2 => hg _ _ _ _ (fun z q3 => by
    cases z with
    | bool kk =>
      cases kk with
      | true => exact hc.mono _ _ _ (fun d3 e3 q4 => hg' _ _ _ _ (fun d q5 => m _ _ q5) q4) q3
      | false => exact m _ _ q3
    | _ => exact q3.elim) q2) q1) q
/-- an operation that makes nothing -/
structure OpS (K : PySem.W.Frag) (r : R2) (g : G2) : Prop where
  run : ∀ (F H : Hp) (x y : V) (d1 d2 : D) (Q : VK), Same F H → Dq K F x d1 → Dq K F y d2 → g d1 d2 (fun d => ∀ v, Dq K F v d → Q v H) → r x y H Q
  mono : ∀ d1 d2 (P P' : D → Prop), (∀ d, P d → P' d) → g d1 d2 P → g d1 d2 P'
theorem OpS.op {K : PySem.W.Frag} {r : R2} {g : G2} (s : OpS K r g) : OpD K r g := ⟨fun F H x y d1 d2 Q sm p1 p2 q => s.run F H x y d1 d2 Q sm p1 p2 (s.mono _ _ _ _ (fun d q1 v p => q1 v F H Grow.refl p) q), s.mono⟩
theorem chain_imp {r r' : R2} {g g' : G2} {k : DT} (hg : OpS X.K r g) (hg' : OpD X.K r' g') (ha : DE X a f) (hb : DE X b h) (hc : DE X c k) (w : Wd) : ∀ σ H Q, EL X.K w (dChain g g' f h k) σ H Q → tChain r r' (EL X.K w f) (EL X.K w h) (EL X.K w k) σ H Q := by
  rintro σ H Q ⟨F, ad, e, R, q⟩
  refine ⟨F, ad, e, R, ha.mono _ _ _ (fun d1 e1 q1 F1 ad1 H1 v1 s1 R1 p1 => ?_) q⟩
  refine ⟨F1, ad1, e1, R1, hb.mono _ _ _ (fun d2 e2 q2 F2 ad2 H2 v2 s2 R2 p2 => ?_) q1⟩
  refine hg.run F2 H2 v1 v2 d1 d2 _ R2.sub (dp_mono s2 _ _ p1) p2 (hg.mono _ _ _ _ (fun z q3 v p3 => ?_) q2)
  cases z with
  | bool kk =>
    refine ⟨kk, dp_bool p3, ?_⟩
    cases kk with
    | true =>
      rw [if_pos rfl]
      refine ⟨F2, ad2, e2, R2, hc.mono _ _ _ (fun d3 e3 q4 F3 ad3 H3 v3 s3 R3 p4 => ?_) q3⟩
      refine hg'.run F3 H3 v2 v3 d2 d3 Q R3.sub (dp_mono s3 _ _ p2) p4 (hg'.mono _ _ _ _ (fun d q5 v' F4 H4 gr p5 => ?_) q4)
      exact q5 F4 ad3 H4 v' (s1.trans (s2.trans (s3.trans (gr.same R3.sub)))) (gr.rel R3) p5
    | false =>
      rw [if_neg Bool.false_ne_true]
      exact q3 F2 ad2 H2 _ (s1.trans s2) R2 (.bl false)
  | _ => exact q3.elim
theorem de_chain {op op' : CmpOp} {r r' : R2} {g g' : G2} {k : DT} (ho : OpR X (compareOp op) r) (ho' : OpR X (compareOp op') r') (hg : OpS X.K r g) (hg' : OpD X.K r' g') (ha : DE X a f) (hb : DE X b h) (hc : DE X c k)
    (hm : lastMarks [op, op'] [b, c] = false := by with_unfolding_all rfl) : DE X (.Compare a [op, op'] [b, c] pos) (dChain g g' f h k) :=
  ⟨fun w => PE.imp (pe_chain ho ho' (ha.run w) (hb.run w) (hc.run w) hm) (chain_imp hg hg' ha hb hc w), dChain_mono hg.mono hg'.mono ha hb hc⟩
theorem dt_chain {op op' : CmpOp} {r r' : R2} {g g' : G2} {k : DT} (ho : OpR X (compareOp op) r) (ho' : OpR X (compareOp op') r') (hg : OpS X.K r g) (hg' : OpD X.K r' g') (ha : DE X a f) (hb : DE X b h) (hc : DE X c k)
    (hm : lastMarks [op, op'] [b, c] = false := by with_unfolding_all rfl) : DTe X (.Compare a [op, op'] [b, c] pos) (dB (dChain g g' f h k)) :=
  ⟨fun w => PT.imp (pt_chain ho ho' (ha.run w) (hb.run w) (hc.run w) hm) (test_imp (chain_imp hg hg' ha hb hc w) (dChain_mono hg.mono hg'.mono ha hb hc)), dB_mono (dChain_mono hg.mono hg'.mono ha hb hc)⟩

/-! ### ints -/
def gI (C : Int → Int → Prop) (k : Int → Int → D) : G2 := fun d1 d2 P => match d1, d2 with
  | .int i, .int j => C i j ∧ P (k i j)
  | _, _ => False
def gI0 (k : Int → Int → D) : G2 := fun d1 d2 P => match d1, d2 with
  | .int i, .int j => P (k i j)
  | _, _ => False
theorem gI_mono (C : Int → Int → Prop) (k : Int → Int → D) : ∀ d1 d2 (P P' : D → Prop), (∀ d, P d → P' d) → gI C k d1 d2 P → gI C k d1 d2 P' := fun d1 d2 P P' m q => by
  unfold gI at q ⊢
  split at q
  · exact ⟨q.1, m _ q.2⟩
  · exact q.elim
theorem gI0_mono (k : Int → Int → D) : ∀ d1 d2 (P P' : D → Prop), (∀ d, P d → P' d) → gI0 k d1 d2 P → gI0 k d1 d2 P' := fun d1 d2 P P' m q => by
  unfold gI0 at q ⊢
  split at q
  · exact m _ q
  · exact q.elim
theorem os_I {K : PySem.W.Frag} {C : Int → Int → Prop} {k : Int → Int → Int} : OpS K (rI C fun i j => .int (k i j)) (gI C fun i j => .int (k i j)) := ⟨fun F H x y d1 d2 Q sm p1 p2 q => by
  unfold gI at q
  split at q
  · exact ⟨_, _, dp_int p1, dp_int p2, q.1, q.2 _ (.int _)⟩
  · exact q.elim, gI_mono _ _⟩
theorem os_I0 {K : PySem.W.Frag} {k : Int → Int → Int} : OpS K (rI0 fun i j => .int (k i j)) (gI0 fun i j => .int (k i j)) := ⟨fun F H x y d1 d2 Q sm p1 p2 q => by
  unfold gI0 at q
  split at q
  · exact ⟨_, _, dp_int p1, dp_int p2, q _ (.int _)⟩
  · exact q.elim, gI0_mono _⟩
theorem os_B0 {K : PySem.W.Frag} {k : Int → Int → Bool} : OpS K (rI0 fun i j => .bl (k i j)) (gI0 fun i j => .bool (k i j)) := ⟨fun F H x y d1 d2 Q sm p1 p2 q => by
  unfold gI0 at q
  split at q
  · exact ⟨_, _, dp_int p1, dp_int p2, q _ (.bl _)⟩
  · exact q.elim, gI0_mono _⟩
/-- == of ints, or of any data -/
def gEq : G2 := fun d1 d2 P => match d1, d2 with
  | .int i, .int j => P (.bool (decide (i = j)))
  | _, _ => SeqAt.shaped d1 = true ∧ SeqAt.shaped d2 = true ∧ P (.bool (PyData.eqv d1 d2))
def gNe : G2 := fun d1 d2 P => match d1, d2 with
  | .int i, .int j => P (.bool (!decide (i = j)))
  | _, _ => SeqAt.shaped d1 = true ∧ SeqAt.shaped d2 = true ∧ P (.bool (!PyData.eqv d1 d2))
theorem shaped_int (i : Int) : SeqAt.shaped (.int i) = true := by
  unfold SeqAt.shaped
  simp [PyData.canLay0, PyData.depth]
theorem eqv_int (i j : Int) : PyData.eqv (.int i) (.int j) = decide (i = j) := by
  simp [PyData.eqv]
  by_cases h : i = j <;> simp [h]
theorem os_eq {K : PySem.W.Frag} : OpS K (rEqD K) gEq := ⟨fun F H x y d1 d2 Q sm p1 p2 q => by
  unfold gEq at q
  split at q
  · exact ⟨_, _, dq_dp _ _ (SeqAt.canLay_of_shaped (shaped_int _)) (dp_mono sm _ _ p1), dq_dp _ _ (SeqAt.canLay_of_shaped (shaped_int _)) (dp_mono sm _ _ p2), shaped_int _, shaped_int _, by rw [eqv_int]; exact q _ (.bl _)⟩
  · exact ⟨_, _, dq_dp _ _ (SeqAt.canLay_of_shaped q.1) (dp_mono sm _ _ p1), dq_dp _ _ (SeqAt.canLay_of_shaped q.2.1) (dp_mono sm _ _ p2), q.1, q.2.1, q.2.2 _ (.bl _)⟩, fun d1 d2 P P' m q => by
  unfold gEq at q ⊢
  split at q
  · exact m _ q
  · exact ⟨q.1, q.2.1, m _ q.2.2⟩⟩
theorem os_ne {K : PySem.W.Frag} : OpS K (rNeD K) gNe := ⟨fun F H x y d1 d2 Q sm p1 p2 q => by
  unfold gNe at q
  split at q
  · exact ⟨_, _, dq_dp _ _ (SeqAt.canLay_of_shaped (shaped_int _)) (dp_mono sm _ _ p1), dq_dp _ _ (SeqAt.canLay_of_shaped (shaped_int _)) (dp_mono sm _ _ p2), shaped_int _, shaped_int _, by rw [eqv_int]; exact q _ (.bl _)⟩
  · exact ⟨_, _, dq_dp _ _ (SeqAt.canLay_of_shaped q.1) (dp_mono sm _ _ p1), dq_dp _ _ (SeqAt.canLay_of_shaped q.2.1) (dp_mono sm _ _ p2), q.1, q.2.1, q.2.2 _ (.bl _)⟩, fun d1 d2 P P' m q => by
  unfold gNe at q ⊢
  split at q
  · exact m _ q
  · exact ⟨q.1, q.2.1, m _ q.2.2⟩⟩
/-- is None, is not None -/
def isNone : D → Bool
  | .none => true
  | _ => false
def gIsN : G2 := fun d1 d2 P => match d2 with
  | .none => P (.bool (isNone d1))
  | _ => False
def gNotN : G2 := fun d1 d2 P => match d2 with
  | .none => P (.bool (!isNone d1))
  | _ => False
theorem isNone_iff {K : PySem.W.Frag} {F : Hp} {v : V} {d : D} (p : Dq K F v d) : decide (v = .non) = isNone d := by cases p <;> rfl
theorem os_isN {K : PySem.W.Frag} : OpS K (fun x y H Q => y = .non ∧ Q (.bl (decide (x = .non))) H) gIsN := ⟨fun F H x y d1 d2 Q sm p1 p2 q => by
  cases d2 with
  | none => exact ⟨dp_none p2, by rw [isNone_iff p1]; exact q _ (.bl _)⟩
  | _ => exact q.elim, fun d1 d2 P P' m q => by
  cases d2 with
  | none => exact m _ q
  | _ => exact q.elim⟩
theorem os_notN {K : PySem.W.Frag} : OpS K (fun x y H Q => y = .non ∧ Q (.bl (!decide (x = .non))) H) gNotN := ⟨fun F H x y d1 d2 Q sm p1 p2 q => by
  cases d2 with
  | none => exact ⟨dp_none p2, by rw [isNone_iff p1]; exact q _ (.bl _)⟩
  | _ => exact q.elim, fun d1 d2 P P' m q => by
  cases d2 with
  | none => exact m _ q
  | _ => exact q.elim⟩
/-! unary -/
def dUn (k : Int → D) (f : DT) : DT := fun e Q => f e fun d e1 => match d with
  | .int i => Q (k i) e1
  | _ => False
theorem de_neg (ha : DE X a f) : DE X (.UnaryOp .USub a pos) (dUn (fun i => .int (-i)) f) := by
  refine ⟨fun w => PE.imp (pe_un un_neg (ha.run w)) ?_, fun e Q Q' m q => ha.mono _ _ _ (fun d e1 q1 => ?_) q⟩
  · rintro σ H Q ⟨F, ad, e, R, q⟩
    refine ⟨F, ad, e, R, ha.mono _ _ _ (fun d1 e1 q1 F1 ad1 H1 v1 s1 R1 p1 => ?_) q⟩
    cases d1 with
    | int i => exact ⟨i, dp_int p1, q1 F1 ad1 H1 _ s1 R1 (.int _)⟩
    | _ => exact q1.elim
  · cases d with
    | int i => exact m _ _ q1
    | _ => exact q1.elim

/-! ### truth, and, or, not -/
def truD : D → Option Bool
  | .none => some false
  | .bool k => some k
  | .int i => some (i != 0)
  | .list ds => some (!ds.isEmpty)
  | .tuple ds => some (!ds.isEmpty)
  | _ => none
def dTru (f : DT) : DB := fun e Q => f e fun d e1 => match truD d with
  | some k => Q k e1
  | none => False
theorem empty_of {K : PySem.W.Frag} {F : Hp} {xs : List V} {ds : List D} (h : DqAll K F xs ds) : xs.isEmpty = ds.isEmpty := by cases h <;> rfl
theorem dt_tru (ha : DE X a f) (he : ∀ whole, isTrue a X.env whole = (do let v ← whole; standAt a.pos; holding [v] (truthy v)) := by intro _; rfl) : DTe X a (dTru f) := by
  refine ⟨fun w => PT.imp (pt_truth (ha.run w) he) ?_, fun e Q Q' m q => ha.mono _ _ _ (fun d e1 q1 => ?_) q⟩
  · rintro σ H Q ⟨F, ad, e, R, q⟩
    refine ⟨F, ad, e, R, ha.mono _ _ _ (fun d1 e1 q1 F1 ad1 H1 v1 s1 R1 p1 => ?_) q⟩
    cases d1 with
    | none => exact ⟨false, by rw [dp_none p1]; rfl, q1 F1 ad1 H1 s1 R1⟩
    | bool k => exact ⟨k, by rw [dp_bool p1]; rfl, q1 F1 ad1 H1 s1 R1⟩
    | int i => exact ⟨i != 0, by rw [dp_int p1]; rfl, q1 F1 ad1 H1 s1 R1⟩
    | str z => exact q1.elim
    | list ds =>
      obtain ⟨a, xs, rfl, h1, h2⟩ := dp_list p1
      exact ⟨!ds.isEmpty, .inl ⟨xs, R1.sub.seq h1, by rw [empty_of h2]⟩, q1 F1 ad1 H1 s1 R1⟩
    | tuple ds =>
      obtain ⟨a, xs, rfl, h1, h2⟩ := dp_tup p1
      exact ⟨!ds.isEmpty, .inr (.inl ⟨xs, sqT_mono R1.sub h1, by rw [empty_of h2]⟩), q1 F1 ad1 H1 s1 R1⟩
    | dict z => exact q1.elim
  · cases hd : truD d with
    | none => rw [hd] at q1; exact q1.elim
    | some k => rw [hd] at q1; exact m _ _ q1
theorem DW.te (h : DW X x t) : DTe X x t := ⟨fun w => (h.run w).pt, h.mono⟩
def dAnd (t u : DB) : DB := fun e Q => t e fun k e1 => if k = true then u e1 Q else Q false e1
def dOr (t u : DB) : DB := fun e Q => t e fun k e1 => if k = true then Q true e1 else u e1 Q
def dNot (t : DB) : DB := fun e Q => t e fun k e1 => Q (!k) e1
variable {rest : List Expr}
theorem dw_and1 (h : DTe X a t) : DW X (.BoolOp .And [a] pos) t := ⟨fun w => pw_and1 (h.run w), h.mono⟩
theorem dw_or1 (h : DTe X a t) : DW X (.BoolOp .Or [a] pos) t := ⟨fun w => pw_or1 (h.run w), h.mono⟩
theorem dw_and (h1 : DTe X a t) (h2 : DW X (.BoolOp .And (b :: rest) pos) u) : DW X (.BoolOp .And (a :: b :: rest) pos) (dAnd t u) := by
  refine ⟨fun w => PW.imp (pw_and (h1.run w) (h2.run w)) ?_, fun e Q Q' m q => h1.mono _ _ _ (fun k e1 q1 => ?_) q⟩
  · rintro σ H Q ⟨F, ad, e, R, q⟩
    refine ⟨F, ad, e, R, h1.mono _ _ _ (fun k e1 q1 F1 ad1 H1 s1 R1 => ?_) q⟩
    cases k with
    | true =>
      rw [if_pos rfl] at q1 ⊢
      exact ⟨F1, ad1, e1, R1, h2.mono _ _ _ (fun k2 e2 q2 F2 ad2 H2 s2 R2 => q2 F2 ad2 H2 (s1.trans s2) R2) q1⟩
    | false =>
      rw [if_neg Bool.false_ne_true] at q1 ⊢
      exact q1 F1 ad1 H1 s1 R1
  · cases k with
    | true => rw [if_pos rfl] at q1 ⊢; exact h2.mono _ _ _ m q1
    | false => rw [if_neg Bool.false_ne_true] at q1 ⊢; exact m _ _ q1
theorem dw_or (h1 : DTe X a t) (h2 : DW X (.BoolOp .Or (b :: rest) pos) u) : DW X (.BoolOp .Or (a :: b :: rest) pos) (dOr t u) := by
  refine ⟨fun w => PW.imp (pw_or (h1.run w) (h2.run w)) ?_, fun e Q Q' m q => h1.mono _ _ _ (fun k e1 q1 => ?_) q⟩
  · rintro σ H Q ⟨F, ad, e, R, q⟩
    refine ⟨F, ad, e, R, h1.mono _ _ _ (fun k e1 q1 F1 ad1 H1 s1 R1 => ?_) q⟩
    cases k with
    | true =>
      rw [if_pos rfl] at q1 ⊢
      exact q1 F1 ad1 H1 s1 R1
    | false =>
      rw [if_neg Bool.false_ne_true] at q1 ⊢
      exact ⟨F1, ad1, e1, R1, h2.mono _ _ _ (fun k2 e2 q2 F2 ad2 H2 s2 R2 => q2 F2 ad2 H2 (s1.trans s2) R2) q1⟩
  · cases k with
    | true => rw [if_pos rfl] at q1 ⊢; exact m _ _ q1
    | false => rw [if_neg Bool.false_ne_true] at q1 ⊢; exact h2.mono _ _ _ m q1
theorem dt_not (h : DTe X a t) : DTe X (.UnaryOp .Not a pos) (dNot t) := by
  refine ⟨fun w => PT.imp (pt_not (h.run w)) ?_, fun e Q Q' m q => h.mono _ _ _ (fun k e1 q1 => m _ _ q1) q⟩
  rintro σ H Q ⟨F, ad, e, R, q⟩
  exact ⟨F, ad, e, R, h.mono _ _ _ (fun k e1 q1 F1 ad1 H1 s1 R1 => q1 F1 ad1 H1 s1 R1) q⟩
/-! .. as values that are bools -/
def dAndV (f h : DT) : DT := fun e Q => f e fun d e1 => match d with
  | .bool true => h e1 Q
  | .bool false => Q (.bool false) e1
  | _ => False
def dOrV (f h : DT) : DT := fun e Q => f e fun d e1 => match d with
  | .bool true => Q (.bool true) e1
  | .bool false => h e1 Q
  | _ => False
def dNotV (f : DT) : DT := fun e Q => f e fun d e1 => match d with
  | .bool k => Q (.bool (!k)) e1
  | _ => False
theorem de_one {op} (ha : DE X a f) : DE X (.BoolOp op [a] pos) f := ⟨fun w => pe_one (ha.run w), ha.mono⟩
theorem de_and (ha : DE X a f) (hb : DE X (.BoolOp .And (b :: rest) pos) h) : DE X (.BoolOp .And (a :: b :: rest) pos) (dAndV f h) := by
  refine ⟨fun w => PE.imp (pe_and (ha.run w) (hb.run w)) ?_, fun e Q Q' m q => ha.mono _ _ _ (fun d e1 q1 => ?_) q⟩
  · rintro σ H Q ⟨F, ad, e, R, q⟩
    refine ⟨F, ad, e, R, ha.mono _ _ _ (fun d e1 q1 F1 ad1 H1 v1 s1 R1 p1 => ?_) q⟩
    cases d with
    | bool k =>
      refine ⟨k, dp_bool p1, ?_⟩
      cases k with
      | true => rw [if_pos rfl]; exact ⟨F1, ad1, e1, R1, hb.mono _ _ _ (fun d2 e2 q2 F2 ad2 H2 v2 s2 R2 p2 => q2 F2 ad2 H2 v2 (s1.trans s2) R2 p2) q1⟩
      | false => rw [if_neg Bool.false_ne_true]; exact q1 F1 ad1 H1 _ s1 R1 (.bl _)
    | _ => exact q1.elim
  · cases d with
    | bool k =>
      cases k with
      | true => exact hb.mono _ _ _ m q1
      | false => exact m _ _ q1
    | _ => exact q1.elim
theorem de_or (ha : DE X a f) (hb : DE X (.BoolOp .Or (b :: rest) pos) h) : DE X (.BoolOp .Or (a :: b :: rest) pos) (dOrV f h) := by
  refine ⟨fun w => PE.imp (pe_or (ha.run w) (hb.run w)) ?_, fun e Q Q' m q => ha.mono _ _ _ (fun d e1 q1 => ?_) q⟩
  · rintro σ H Q ⟨F, ad, e, R, q⟩
    refine ⟨F, ad, e, R, ha.mono _ _ _ (fun d e1 q1 F1 ad1 H1 v1 s1 R1 p1 => ?_) q⟩
    cases d with
    | bool k =>
      refine ⟨k, dp_bool p1, ?_⟩
      cases k with
      | true => rw [if_pos rfl]; exact q1 F1 ad1 H1 _ s1 R1 (.bl _)
      | false => rw [if_neg Bool.false_ne_true]; exact ⟨F1, ad1, e1, R1, hb.mono _ _ _ (fun d2 e2 q2 F2 ad2 H2 v2 s2 R2 p2 => q2 F2 ad2 H2 v2 (s1.trans s2) R2 p2) q1⟩
    | _ => exact q1.elim
  · cases d with
    | bool k =>
      cases k with
      | true => exact m _ _ q1
      | false => exact hb.mono _ _ _ m q1
    | _ => exact q1.elim
theorem de_not (ha : DE X a f) : DE X (.UnaryOp .Not a pos) (dNotV f) := by
  refine ⟨fun w => PE.imp (pe_not (ha.run w)) ?_, fun e Q Q' m q => ha.mono _ _ _ (fun d e1 q1 => ?_) q⟩
  · rintro σ H Q ⟨F, ad, e, R, q⟩
    refine ⟨F, ad, e, R, ha.mono _ _ _ (fun d e1 q1 F1 ad1 H1 v1 s1 R1 p1 => ?_) q⟩
    cases d with
    | bool k => exact ⟨k, dp_bool p1, q1 F1 ad1 H1 _ s1 R1 (.bl _)⟩
    | _ => exact q1.elim
  · cases d with
    | bool k => exact m _ _ q1
    | _ => exact q1.elim
def dIf (t : DB) (f h : DT) : DT := fun e Q => t e fun k e1 => if k = true then f e1 Q else h e1 Q
theorem de_if (hc : DTe X c t) (ha : DE X a f) (hb : DE X b h) : DE X (.IfExp c a b pos) (dIf t f h) := by
  refine ⟨fun w => PE.imp (pe_ifExp (hc.run w) (ha.run w) (hb.run w)) ?_, fun e Q Q' m q => hc.mono _ _ _ (fun k e1 q1 => ?_) q⟩
  · rintro σ H Q ⟨F, ad, e, R, q⟩
    refine ⟨F, ad, e, R, hc.mono _ _ _ (fun k e1 q1 F1 ad1 H1 s1 R1 => ?_) q⟩
    cases k with
    | true =>
      rw [if_pos rfl] at q1 ⊢
      exact ⟨F1, ad1, e1, R1, ha.mono _ _ _ (fun d2 e2 q2 F2 ad2 H2 v2 s2 R2 p2 => q2 F2 ad2 H2 v2 (s1.trans s2) R2 p2) q1⟩
    | false =>
      rw [if_neg Bool.false_ne_true] at q1 ⊢
      exact ⟨F1, ad1, e1, R1, hb.mono _ _ _ (fun d2 e2 q2 F2 ad2 H2 v2 s2 R2 p2 => q2 F2 ad2 H2 v2 (s1.trans s2) R2 p2) q1⟩
  · cases k with
    | true => rw [if_pos rfl] at q1 ⊢; exact ha.mono _ _ _ m q1
    | false => rw [if_neg Bool.false_ne_true] at q1 ⊢; exact hb.mono _ _ _ m q1

/-! ### arguments, displays -/
def dNil : DA := fun e Q => Q [] e
def dCons (f : DT) (r : DA) : DA := fun e Q => f e fun d e1 => r e1 fun ds e2 => Q (d :: ds) e2
variable {es : List Expr} {r : DA}
theorem da_nil : DAr X [] dNil := ⟨fun w => PA.imp pa_nil fun σ H Q ⟨F, ad, e, R, q⟩ => q F ad H [] (Same.refl F) R .nil, fun _ _ _ m q => m _ _ q⟩
theorem da_cons (ha : DE X a f) (hr : DAr X es r) (hs : starEach (a :: es) X.env = (false, eval a X.env) :: starEach es X.env := by rfl) : DAr X (a :: es) (dCons f r) := by
  refine ⟨fun w => PA.imp (pa_cons (ha.run w) (hr.run w) hs) ?_, fun e Q Q' m q => ha.mono _ _ _ (fun d e1 q1 => hr.mono _ _ _ (fun ds e2 q2 => m _ _ q2) q1) q⟩
  rintro σ H Q ⟨F, ad, e, R, q⟩
  refine ⟨F, ad, e, R, ha.mono _ _ _ (fun d e1 q1 F1 ad1 H1 v1 s1 R1 p1 => ?_) q⟩
  exact ⟨F1, ad1, e1, R1, hr.mono _ _ _ (fun ds e2 q2 F2 ad2 H2 vs s2 R2 p2 => q2 F2 ad2 H2 (v1 :: vs) (s1.trans s2) R2 (.cons (dp_mono s2 _ _ p1) p2)) q1⟩
def dTup (r : DA) : DT := fun e Q => r e fun ds e1 => ds.length ≤ sizeLine ∧ Q (.tuple ds) e1
def dLst (r : DA) : DT := fun e Q => r e fun ds e1 => ds.length ≤ sizeLine ∧ Q (.list ds) e1
theorem de_tup {x1} (hr : DAr X es r) : DE X (.Tuple es x1 pos) (dTup r) := by
  refine ⟨fun w => PE.imp (pe_tup (hr.run w)) ?_, fun e Q Q' m q => hr.mono _ _ _ (fun ds e1 q1 => ⟨q1.1, m _ _ q1.2⟩) q⟩
  rintro σ H Q ⟨F, ad, e, R, q⟩
  refine ⟨F, ad, e, R, hr.mono _ _ _ (fun ds e1 q1 F1 ad1 H1 vs s1 R1 p1 => ⟨by rw [dpAll_len p1]; exact q1.1, fun p hp => ?_⟩) q⟩
  have sm := same_upd (o := .tup vs) R1.sub hp
  exact q1.2 _ ad1 _ _ (s1.trans sm) (R1.grow hp) (.tup (SqT.of upd_same) (dpAll_mono sm _ _ p1))
theorem de_lst (hr : DAr X es r) : DE X (.List es pos) (dLst r) := by
  refine ⟨fun w => PE.imp (pe_lst (hr.run w)) ?_, fun e Q Q' m q => hr.mono _ _ _ (fun ds e1 q1 => ⟨q1.1, m _ _ q1.2⟩) q⟩
  rintro σ H Q ⟨F, ad, e, R, q⟩
  refine ⟨F, ad, e, R, hr.mono _ _ _ (fun ds e1 q1 F1 ad1 H1 vs s1 R1 p1 => ⟨by rw [dpAll_len p1]; exact q1.1, fun p hp => ?_⟩) q⟩
  have sm := same_upd (o := .lst vs) R1.sub hp
  exact q1.2 _ ad1 _ _ (s1.trans sm) (R1.grow hp) (.lst (Rd.of upd_same) (dpAll_mono sm _ _ p1))
/-- a new list of one's own -/
def dFLst (r : DA) : DF := fun e Q => r e fun ds e1 => ds.length ≤ sizeLine ∧ Q (.lst ds) e1
theorem Rel.layOwn {K : PySem.W.Frag} {w : Wd} {F : Hp} {ad : Nat → Addr} {σ : L2.St} {H : Hp} {e : Env} {p : Addr} {o : HO} (R : Rel K w F ad σ H e) (h : H p = none) : Rel K w F ad σ (upd H p o) e ∧ Fresh w F ad e p := by
  have hn : ∀ b u, H b = some u → b ≠ p := fun b u q z => by subst z; rw [h] at q; cases q
  have up : ∀ b u, H b = some u → (upd H p o) b = some u := fun b u q => by rw [upd_ne (hn b u q)]; exact q
  refine ⟨⟨fun b u q => up b u (R.sub b u q), R.old, fun b u q => ?_, fun b u q1 q2 q3 => ?_, R.len, R.im, fun i ds q => ?_, fun i ds q => ?_, R.hbo, R.inj, R.nbo, R.ubo⟩, ⟨?_, ?_, fun i ds q z => ?_, fun hb z => ?_⟩⟩
  · obtain ⟨u', q'⟩ := R.dom b u q; exact ⟨u', up b u' q'⟩
  · obtain ⟨a1, a2⟩ := R.fr b u q1 q2 q3; exact ⟨up b u a1, a2⟩
  · obtain ⟨xs, a1, a2, a3⟩ := R.mu i ds q; exact ⟨xs, a1, up _ _ a2, a3⟩
  · obtain ⟨a0, xs, a1, a2, a3⟩ := R.bo i ds q; exact ⟨a0, xs, a1, up _ _ a2, a3⟩
  · cases z : F p with
    | none => rfl
    | some u => rw [R.sub p u z] at h; cases h
  · cases z : w.H0 p with
    | none => rfl
    | some u => obtain ⟨u', q'⟩ := R.dom p u z; rw [h] at q'; cases q'
  · obtain ⟨xs, _, a2, _⟩ := R.mu i ds q
    rw [z, h] at a2; cases a2
  · obtain ⟨_, u, q⟩ := R.hbo hb
    obtain ⟨u', q'⟩ := R.dom _ _ q
    rw [← z, h] at q'; cases q'
theorem df_lst (hr : DAr X es r) : DFe X (.List es pos) (dFLst r) := by
  refine ⟨fun w => PE.imp (pe_lst (hr.run w)) ?_, fun e Q Q' m q => hr.mono _ _ _ (fun ds e1 q1 => ⟨q1.1, m _ _ q1.2⟩) q⟩
  rintro σ H Q ⟨F, ad, e, R, q⟩
  refine ⟨F, ad, e, R, hr.mono _ _ _ (fun ds e1 q1 F1 ad1 H1 vs s1 R1 p1 => ⟨by rw [dpAll_len p1]; exact q1.1, fun p hp => ?_⟩) q⟩
  obtain ⟨R2, fr⟩ := R1.layOwn (o := .lst vs) hp
  exact q1.2 F1 ad1 _ p _ s1 R2 upd_same fr (.lst p1)

/-! ### subscripts -/
def itemsOf : D → Option (List D)
  | .list ds => some ds
  | .tuple ds => some ds
  | .dict [(.none, .list ds)] => some ds
  | _ => none
theorem items_of {K : PySem.W.Frag} {F : Hp} {v : V} {d : D} {ds : List D} (h : itemsOf d = some ds) (p : Dq K F v d) : ∃ a xs, v = .ref a ∧ (SqL K F a xs ∨ SqT K F a xs) ∧ DqAll K F xs ds := by
  unfold itemsOf at h
  split at h
  · cases h; obtain ⟨a, xs, e, h1, h2⟩ := dp_list p; exact ⟨a, xs, e, .inl h1, h2⟩
  · cases h; obtain ⟨a, xs, e, h1, h2⟩ := dp_tup p; exact ⟨a, xs, e, .inr h1, h2⟩
  · cases h; obtain ⟨a, xs, e, h1, h2⟩ := dp_scr p; exact ⟨a, xs, e, .inl h1, h2⟩
  · cases h
def gIx : G2 := fun d1 d2 P => match itemsOf d1, d2 with
  | some ds, .int k => match atI ds k with
    | some d => P d
    | none => False
  | _, _ => False
theorem atI_dp {K : PySem.W.Frag} {F : Hp} {xs : List V} {ds : List D} {k : Int} {d : D} (h : DqAll K F xs ds) (q : atI ds k = some d) : ∃ x, atI xs k = some x ∧ Dq K F x d := by
  unfold atI at q ⊢
  rw [dpAll_len h]
  cases z : ixN ds.length k with
  | none => rw [z] at q; cases q
  | some j =>
    rw [z] at q
    exact dpAll_got h q
theorem os_ix {K : PySem.W.Frag} : OpS K (rIx K) gIx := ⟨fun F H x y d1 d2 Q sm p1 p2 q => by
  unfold gIx at q
  split at q
  · rename_i ds k hi
    split at q
    · rename_i d z
      obtain ⟨a, xs, rfl, h1, h2⟩ := items_of hi p1
      obtain ⟨v, g1, g2⟩ := atI_dp h2 z
      rcases h1 with h1 | h1
      · exact .inl ⟨a, xs, k, v, rfl, dp_int p2, sm.seq h1, g1, q v g2⟩
      · exact .inr (.inl ⟨a, xs, k, v, rfl, dp_int p2, sqT_mono sm h1, g1, q v g2⟩)
    · exact q.elim
  · exact q.elim, fun d1 d2 P P' m q => by
  unfold gIx at q ⊢
  split at q
  · split at q
    · exact m _ q
    · exact q.elim
  · exact q.elim⟩
theorem de_ix (ha : DE X a f) (hb : DE X b h) (hs : PlainIx b) : DE X (.Subscript a b pos) (dBin gIx f h) :=
  ⟨fun w => PE.imp (pe_ix ix_seq (ha.run w) (hb.run w) hs) (bin_imp os_ix.op ha hb w), dBin_mono (os_ix (K := X.K)).mono ha hb⟩
/-- the items of what a slot holds -/
def slItems : Option Sl → Option (List D)
  | some (.im d) => itemsOf d
  | some (.mu (.lst ds)) => some ds
  | some (.bo (.lst ds)) => some ds
  | _ => none
theorem Rel.read {K : PySem.W.Frag} {w : Wd} {F : Hp} {ad : Nat → Addr} {σ : L2.St} {H : Hp} {e : Env} {i : Nat} {ds : List D} (R : Rel K w F ad σ H e) (q : slItems e[i]? = some ds) :
    ∃ p xs, σ[i]? = some (some (.ref p)) ∧ (SqL K H p xs ∨ SqT K H p xs) ∧ DqAll K F xs ds := by
  cases z : e[i]? with
  | none => rw [z] at q; cases q
  | some s =>
    rw [z] at q
    cases s with
    | un => cases q
    | im d =>
      obtain ⟨v, s1, s2⟩ := R.im i d z
      obtain ⟨a, xs, rfl, h1, h2⟩ := items_of q s2
      exact ⟨a, xs, s1, h1.imp (fun h => R.sub.seq h) (fun h => sqT_mono R.sub h), h2⟩
    | mu o =>
      cases o with
      | lst ds' =>
        cases q
        obtain ⟨ho, s1, s2, _, s4, _⟩ := R.mu i _ z
        obtain ⟨xs, rfl, s5⟩ := owr_lst s4
        exact ⟨_, xs, s1, .inl (SqL.of s2), s5⟩
      | _ => cases q
    | bo o =>
      cases o with
      | lst ds' =>
        cases q
        obtain ⟨_, ho, s1, s2, _, s4⟩ := R.bo i _ z
        obtain ⟨xs, rfl, s5⟩ := owr_lst s4
        exact ⟨_, xs, s1, .inl (SqL.of s2), s5⟩
      | _ => cases q
theorem Rel.has {K : PySem.W.Frag} {w : Wd} {F : Hp} {ad : Nat → Addr} {σ : L2.St} {H : Hp} {e : Env} {i : Nat} {ds : List D} (R : Rel K w F ad σ H e) (q : slItems e[i]? = some ds) : ∃ p, σ[i]? = some (some (.ref p)) := by
  obtain ⟨p, _, h, _⟩ := R.read q
  exact ⟨p, h⟩
/-- x[k], x a name: nothing is frozen -/
def dIxN (i : Nat) (h : DT) : DT := fun e Q => (∃ ds, slItems e[i]? = some ds) ∧ h e fun d e1 => match slItems e1[i]?, d with
  | some ds, .int k => match atI ds k with
    | some d => Q d e1
    | none => False
  | _, _ => False
theorem de_ixN (i : Nat) (ha : PE X a (tVar i)) (hb : DE X b h) (hs : PlainIx b) : DE X (.Subscript a b pos) (dIxN i h) := by
  refine ⟨fun w => PE.imp (pe_ix ix_seq ha (hb.run w) hs) ?_, fun e Q Q' m q => ⟨q.1, hb.mono _ _ _ (fun d e1 q1 => ?_) q.2⟩⟩
  · rintro σ H Q ⟨F, ad, e, R, ⟨ds0, q0⟩, q⟩
    obtain ⟨p, hp⟩ := R.has q0
    refine ⟨_, hp, F, ad, e, R, hb.mono _ _ _ (fun d e1 q1 F1 ad1 H1 v1 s1 R1 p1 => ?_) q⟩
    cases z : slItems e1[i]? with
    | none => rw [z] at q1; exact q1.elim
    | some ds =>
      rw [z] at q1
      cases d with
      | int k =>
        have q' : (match atI ds k with | some d => (∀ F' ad' H' v, Same F F' → Rel X.K w F' ad' σ H' e1 → Dq X.K F' v d → Q v H') | none => False) := q1
        cases zk : atI ds k with
        | none => rw [zk] at q'; exact q'.elim
        | some d =>
          rw [zk] at q'
          obtain ⟨p2, xs, g1, g2, g3⟩ := R1.read z
          rw [hp] at g1
          cases g1
          obtain ⟨v, g4, g5⟩ := atI_dp g3 zk
          have fin := q' F1 ad1 H1 v s1 R1 g5
          rcases g2 with g2 | g2
          · exact .inl ⟨p, xs, k, v, rfl, dp_int p1, g2, g4, fin⟩
          · exact .inr (.inl ⟨p, xs, k, v, rfl, dp_int p1, g2, g4, fin⟩)
      | _ => exact q1.elim
  · split at q1
    · split at q1
      · exact m _ _ q1
      · exact q1.elim
    · exact q1.elim

/-! ### calls of built-ins -/
abbrev G1 := List D → (D → Prop) → Prop
structure OpA (K : PySem.W.Frag) (r : List V → Hp → VK → Prop) (g : G1) : Prop where
  run : ∀ (F H : Hp) (xs : List V) (ds : List D) (Q : VK), Same F H → DqAll K F xs ds → g ds (fun d => ∀ v F' H', Grow F H F' H' → Dq K F' v d → Q v H') → r xs H Q
  mono : ∀ ds (P P' : D → Prop), (∀ d, P d → P' d) → g ds P → g ds P'
def dCallB (g : G1) (r : DA) : DT := fun e Q => r e fun ds e1 => g ds fun d => Q d e1
theorem callB_imp {rr : List V → Hp → VK → Prop} {g : G1} (hg : OpA X.K rr g) (hr : DAr X es r) (w : Wd) : ∀ σ H Q, EL X.K w (dCallB g r) σ H Q → tCB rr (AL X.K w r) σ H Q := by
  rintro σ H Q ⟨F, ad, e, R, q⟩
  refine ⟨F, ad, e, R, hr.mono _ _ _ (fun ds e1 q1 F1 ad1 H1 vs s1 R1 p1 => ?_) q⟩
  exact hg.run F1 H1 vs ds Q R1.sub p1 (hg.mono _ _ _ (fun d q2 v F2 H2 gr p2 => q2 F2 ad1 H2 v (s1.trans (gr.same R1.sub)) (gr.rel R1) p2) q1)
theorem dCallB_mono {g : G1} (hg : ∀ ds (P P' : D → Prop), (∀ d, P d → P' d) → g ds P → g ds P') (hr : DAr X es r) : ∀ e (Q Q' : D → Env → Prop), (∀ d e', Q d e' → Q' d e') → dCallB g r e Q → dCallB g r e Q' :=
  fun e Q Q' m q => hr.mono _ _ _ (fun ds e1 q1 => hg _ _ _ (fun d q2 => m _ _ q2) q1) q
theorem de_of_tCB {rr : List V → Hp → VK → Prop} {g : G1} (hg : OpA X.K rr g) (hr : DAr X es r) (hp : ∀ w, PE X x (tCB rr (AL X.K w r))) : DE X x (dCallB g r) :=
  ⟨fun w => PE.imp (hp w) (callB_imp hg hr w), dCallB_mono hg.mono hr⟩
/-- len(x), x a name -/
def dLenN (i : Nat) : DT := fun e Q => match slItems e[i]? with
  | some ds => Q (.int (ds.length : Nat)) e
  | none => False
theorem de_lenN (i : Nat) (hp : PE X x (tCB (fun xs H Q => ∃ p ys, xs = [.ref p] ∧ (SqL X.K H p ys ∨ SqT X.K H p ys) ∧ Q (.int ys.length) H) (tCons (tVar i) tNil))) : DE X x (dLenN i) := by
  refine ⟨fun w => PE.imp hp ?_, fun e Q Q' m q => ?_⟩
  · rintro σ H Q ⟨F, ad, e, R, q⟩
    unfold dLenN at q
    split at q
    · rename_i ds z
      obtain ⟨p, xs, g1, g2, g3⟩ := R.read z
      refine ⟨_, g1, p, xs, rfl, g2, ?_⟩
      rw [dpAll_len g3]
      exact q F ad H _ (Same.refl F) R (.int _)
    · exact q.elim
  · unfold dLenN at q ⊢
    split at q
    · exact m _ _ q
    · exact q.elim
def gLen : G1 := fun ds P => match ds with
  | [d] => match itemsOf d with
    | some es => P (.int (es.length : Nat))
    | none => False
  | _ => False
theorem oa_len {K : PySem.W.Frag} : OpA K (fun xs H Q => ∃ p ys, xs = [.ref p] ∧ (SqL K H p ys ∨ SqT K H p ys) ∧ Q (.int ys.length) H) gLen := ⟨fun F H xs ds Q sm p q => by
  match ds, p, q with
  | [d], .cons p .nil, q =>
    have q : (match itemsOf d with
      | some es => _
      | none => False) := q
    split at q
    · rename_i es hi
      obtain ⟨a, ys, rfl, h1, h2⟩ := items_of hi p
      exact ⟨a, ys, rfl, h1.imp (fun h => sm.seq h) (fun h => sqT_mono sm h), by rw [dpAll_len h2]; exact q _ F H Grow.refl (.int _)⟩
    · exact q.elim
  | [], _, q => exact q.elim
  | _ :: _ :: _, _, q => exact q.elim, fun ds P P' m q => by
  unfold gLen at q ⊢
  split at q
  · split at q
    · exact m _ q
    · exact q.elim
  · exact q.elim⟩
def gAbs : G1 := fun ds P => match ds with
  | [.int i] => P (.int (if i < 0 then -i else i))
  | _ => False
theorem oa_abs {K : PySem.W.Frag} : OpA K (fun xs H Q => ∃ i, xs = [.int i] ∧ Q (.int (if i < 0 then -i else i)) H) gAbs := ⟨fun F H xs ds Q sm p q => by
  unfold gAbs at q
  split at q
  · cases p with
    | cons p pn => cases pn; rw [dp_int p]; exact ⟨_, rfl, q _ F H Grow.refl (.int _)⟩
  · exact q.elim, fun ds P P' m q => by
  unfold gAbs at q ⊢
  split at q
  · exact m _ q
  · exact q.elim⟩
def gMax : G1 := fun ds P => match ds with
  | [.int i, .int j] => P (.int (if j > i then j else i))
  | _ => False
theorem oa_max {K : PySem.W.Frag} : OpA K (fun xs H Q => ∃ i j, xs = [.int i, .int j] ∧ Q (.int (if j > i then j else i)) H) gMax := ⟨fun F H xs ds Q sm p q => by
  unfold gMax at q
  split at q
  · cases p with
    | cons p pn =>
      cases pn with
      | cons p2 pn => cases pn; rw [dp_int p, dp_int p2]; exact ⟨_, _, rfl, q _ F H Grow.refl (.int _)⟩
  · exact q.elim, fun ds P P' m q => by
  unfold gMax at q ⊢
  split at q
  · exact m _ q
  · exact q.elim⟩
def gMin : G1 := fun ds P => match ds with
  | [.int i, .int j] => P (.int (if j < i then j else i))
  | _ => False
theorem oa_min {K : PySem.W.Frag} : OpA K (fun xs H Q => ∃ i j, xs = [.int i, .int j] ∧ Q (.int (if j < i then j else i)) H) gMin := ⟨fun F H xs ds Q sm p q => by
  unfold gMin at q
  split at q
  · cases p with
    | cons p pn =>
      cases pn with
      | cons p2 pn => cases pn; rw [dp_int p, dp_int p2]; exact ⟨_, _, rfl, q _ F H Grow.refl (.int _)⟩
  · exact q.elim, fun ds P P' m q => by
  unfold gMin at q ⊢
  split at q
  · exact m _ q
  · exact q.elim⟩
/-- int(n), int(a bool) -/
def gInt : G1 := fun ds P => match ds with
  | [.int i] => P (.int i)
  | [.bool k] => P (.int (if k then 1 else 0))
  | _ => False
theorem oa_int {K : PySem.W.Frag} : OpA K (fun xs H Q => (∃ i, xs = [.int i] ∧ Q (.int i) H) ∨ ∃ k, xs = [.bl k] ∧ Q (.int (if k then 1 else 0)) H) gInt := ⟨fun F H xs ds Q sm p q => by
  unfold gInt at q
  split at q
  · cases p with
    | cons p pn => cases pn; rw [dp_int p]; exact .inl ⟨_, rfl, q _ F H Grow.refl (.int _)⟩
  · cases p with
    | cons p pn => cases pn; rw [dp_bool p]; exact .inr ⟨_, rfl, q _ F H Grow.refl (.int _)⟩
  · exact q.elim, fun ds P P' m q => by
  unfold gInt at q ⊢
  split at q
  · exact m _ q
  · exact m _ q
  · exact q.elim⟩
/-- sum of a list of ints -/
def intsOf : List D → Option (List Int)
  | [] => some []
  | .int i :: r => (intsOf r).map (i :: ·)
  | _ => none
theorem intsOf_map : ∀ {ds : List D} {ns : List Int}, intsOf ds = some ns → ds = ns.map PyData.int
  | [], ns, h => by cases h; rfl
  | .int i :: r, ns, h => by
    unfold intsOf at h
    cases z : intsOf r with
    | none => rw [z] at h; cases h
    | some ms =>
      rw [z] at h
      cases h
      rw [intsOf_map z]; rfl
  | .none :: _, _, h => by cases h
  | .bool _ :: _, _, h => by cases h
  | .str _ :: _, _, h => by cases h
  | .list _ :: _, _, h => by cases h
  | .tuple _ :: _, _, h => by cases h
  | .dict _ :: _, _, h => by cases h
theorem intsOf_ints : ∀ ns : List Int, intsOf (ns.map PyData.int) = some ns
  | [] => rfl
  | n :: ns => by
    show (intsOf (ns.map PyData.int)).map (n :: ·) = _
    rw [intsOf_ints ns]; rfl
def gSum : G1 := fun ds P => match ds with
  | [.list es] => match intsOf es with
    | some ns => P (.int ns.sum)
    | none => False
  | _ => False
theorem oa_sum {K : PySem.W.Frag} : OpA K (rSum K) gSum := ⟨fun F H xs ds Q sm p q => by
  unfold gSum at q
  split at q
  · split at q
    · rename_i ns z
      cases p with
      | cons p pn =>
        cases pn
        obtain ⟨a, ys, rfl, h1, h2⟩ := dp_list p
        rw [intsOf_map z] at h2
        rw [dpAll_of_ints ns h2] at h1
        exact ⟨a, ns, rfl, sm.seq h1, q _ F H Grow.refl (.int _)⟩
    · exact q.elim
  · exact q.elim, fun ds P P' m q => by
  unfold gSum at q ⊢
  split at q
  · split at q
    · exact m _ q
    · exact q.elim
  · exact q.elim⟩
/-- all, any of a list of bools -/
def boolsOf : List D → Option (List Bool)
  | [] => some []
  | .bool i :: r => (boolsOf r).map (i :: ·)
  | _ => none
theorem boolsOf_map : ∀ {ds : List D} {ns : List Bool}, boolsOf ds = some ns → ds = ns.map PyData.bool
  | [], ns, h => by cases h; rfl
  | .bool i :: r, ns, h => by
    unfold boolsOf at h
    cases z : boolsOf r with
    | none => rw [z] at h; cases h
    | some ms =>
      rw [z] at h
      cases h
      rw [boolsOf_map z]; rfl
  | .none :: _, _, h => by cases h
  | .int _ :: _, _, h => by cases h
  | .str _ :: _, _, h => by cases h
  | .list _ :: _, _, h => by cases h
  | .tuple _ :: _, _, h => by cases h
  | .dict _ :: _, _, h => by cases h
theorem boolsOf_bools : ∀ ns : List Bool, boolsOf (ns.map PyData.bool) = some ns
  | [] => rfl
  | n :: ns => by
    show (boolsOf (ns.map PyData.bool)).map (n :: ·) = _
    rw [boolsOf_bools ns]; rfl
def gAll : G1 := fun ds P => match ds with
  | [.list es] => match boolsOf es with
    | some ns => P (.bool (ns.all id))
    | none => False
  | _ => False
theorem oa_all {K : PySem.W.Frag} : OpA K (rAll K) gAll := ⟨fun F H xs ds Q sm p q => by
  unfold gAll at q
  split at q
  · split at q
    · rename_i ns z
      cases p with
      | cons p pn =>
        cases pn
        obtain ⟨a, ys, rfl, h1, h2⟩ := dp_list p
        rw [boolsOf_map z] at h2
        rw [dpAll_of_bools ns h2] at h1
        exact ⟨a, ns, rfl, sm.seq h1, q _ F H Grow.refl (.bl _)⟩
    · exact q.elim
  · exact q.elim, fun ds P P' m q => by
  unfold gAll at q ⊢
  split at q
  · split at q
    · exact m _ q
    · exact q.elim
  · exact q.elim⟩
/-- tuple(x), list(x) -/
def gTuple : G1 := fun ds P => match ds with
  | [d] => match itemsOf d with
    | some es => P (.tuple es)
    | none => False
  | _ => False
theorem oa_tuple {K : PySem.W.Frag} : OpA K (fun xs H Q => ∃ p ys, xs = [.ref p] ∧ ((SqL K H p ys ∧ ∀ l, H l = none → Q (.ref l) (upd H l (.tup ys))) ∨ (SqT K H p ys ∧ Q (.ref p) H))) gTuple := ⟨fun F H xs ds Q sm p q => by
  match ds, p, q with
  | [d], .cons p .nil, q =>
    have q : (match itemsOf d with
      | some es => _
      | none => False) := q
    split at q
    · rename_i es hi
      obtain ⟨a, ys, rfl, h1, h2⟩ := items_of hi p
      rcases h1 with h1 | h1
      · refine ⟨a, ys, rfl, .inl ⟨sm.seq h1, fun l hl => ?_⟩⟩
        exact q _ _ _ (Grow.one (F := F) hl) (.tup (SqT.of upd_same) (dpAll_mono (same_upd sm hl) _ _ h2))
      · exact ⟨a, ys, rfl, .inr ⟨sqT_mono sm h1, q _ F H Grow.refl (.tup h1 h2)⟩⟩
    · exact q.elim
  | [], _, q => exact q.elim
  | _ :: _ :: _, _, q => exact q.elim, fun ds P P' m q => by
  unfold gTuple at q ⊢
  split at q
  · split at q
    · exact m _ q
    · exact q.elim
  · exact q.elim⟩
def gList : G1 := fun ds P => match ds with
  | [d] => match itemsOf d with
    | some es => P (.list es)
    | none => False
  | _ => False
theorem oa_list {K : PySem.W.Frag} : OpA K (fun xs H Q => ∃ p ys, xs = [.ref p] ∧ (SqL K H p ys ∨ SqT K H p ys) ∧ ∀ l, H l = none → Q (.ref l) (upd H l (.lst ys))) gList := ⟨fun F H xs ds Q sm p q => by
  match ds, p, q with
  | [d], .cons p .nil, q =>
    have q : (match itemsOf d with
      | some es => _
      | none => False) := q
    split at q
    · rename_i es hi
      obtain ⟨a, ys, rfl, h1, h2⟩ := items_of hi p
      refine ⟨a, ys, rfl, h1.imp (fun h => sm.seq h) (fun h => sqT_mono sm h), fun l hl => ?_⟩
      exact q _ _ _ (Grow.one (F := F) hl) (.lst (Rd.of upd_same) (dpAll_mono (same_upd sm hl) _ _ h2))
    · exact q.elim
  | [], _, q => exact q.elim
  | _ :: _ :: _, _, q => exact q.elim, fun ds P P' m q => by
  unfold gList at q ⊢
  split at q
  · split at q
    · exact m _ q
    · exact q.elim
  · exact q.elim⟩
end
end DL

/-! The D layer, part 3: lists, statements, loops. -/
namespace DL
open PySem PySem.Spec PyProof.Rows L2

section
variable {X : Cx} {x y a b c : Expr} {f g h : DT} {t u : DB} {pos : Pos}

/-! ### + and * of ints, lists, tuples -/
def rCatR : R2 := fun x y H Q => ∃ l m vs us, x = .ref l ∧ y = .ref m ∧ Rd H l (.lst vs) ∧ Rd H m (.lst us) ∧ vs.length + us.length ≤ sizeLine ∧ ∀ p, H p = none → Q (.ref p) (upd H p (.lst (vs ++ us)))
theorem rd_obj {pins : List (Addr × Obj)} {σ : L2.St} {H : Hp} {s : Shared} {l : Addr} {vs : List V} (I : Inv X pins σ H s) (h : Rd H l (.lst vs)) :
    ∃ (its : List Value) (n : Nat), Vals vs its ∧ vs.length = its.length ∧ s.heap.get? l = some { cls := .type "list", data := .seq its.toArray n } := by
  obtain ⟨_, its, n, r, e⟩ := h.ok I.hok
  exact ⟨its, n, r, r.length, e⟩
theorem op_catR : OpR X (binaryOp .Add) rCatR := by
  rintro pins s σ H x y v u Q I rx ry ⟨l, m, vs, us, rfl, rfl, h1, h2, hz, q⟩
  cases rx
  cases ry
  obtain ⟨i1, n1, r1, z1, e1⟩ := rd_obj I h1
  obtain ⟨i2, n2, r2, z2, e2⟩ := rd_obj I h2
  refine PySem.P.add_list e1 e2 ?_ (by rw [List.size_toArray, List.size_toArray]; omega)
  rw [show i1.toArray ++ i2.toArray = (i1 ++ i2).toArray by simp]
  exact ⟨.ref _, _, I.lnew (t' := s.toks) (r1.append r2) (by rw [List.length_append]; omega), rfl, q _ I.fresh⟩
def gAdd : G2 := fun d1 d2 P => match d1, d2 with
  | .int i, .int j => P (.int (i + j))
  | .list ds, .list es => ds.length + es.length ≤ sizeLine ∧ P (.list (ds ++ es))
  | .tuple ds, .tuple es => ds.length + es.length ≤ sizeLine ∧ P (.tuple (ds ++ es))
  | _, _ => False
def rAddA (K : PySem.W.Frag) : R2 := fun x y H Q => (rI0 fun i j => .int (i + j)) x y H Q ∨ (rCatR x y H Q ∨ rCatA K x y H Q)
theorem op_addA : OpR X (binaryOp .Add) (rAddA X.K) := OpR.or op_add (OpR.or op_catR op_catA)
theorem od_add {K : PySem.W.Frag} : OpD K (rAddA K) gAdd := ⟨fun F H x y d1 d2 Q sm p1 p2 q => by
  unfold gAdd at q
  split at q
  · exact .inl ⟨_, _, dp_int p1, dp_int p2, q _ F H Grow.refl (.int _)⟩
  · obtain ⟨l, vs, rfl, h1, k1⟩ := dp_listR p1
    obtain ⟨m, us, rfl, h2, k2⟩ := dp_listR p2
    refine .inr (.inl ⟨l, m, vs, us, rfl, rfl, rd_mono sm h1, rd_mono sm h2, by rw [dpAll_len k1, dpAll_len k2]; exact q.1, fun p hp => ?_⟩)
    exact q.2 _ _ _ (Grow.one (F := F) hp) (.lst (Rd.of upd_same) (dpAll_mono (same_upd sm hp) _ _ (dpAll_app k1 k2)))
  · obtain ⟨l, vs, rfl, h1, k1⟩ := dp_tup p1
    obtain ⟨m, us, rfl, h2, k2⟩ := dp_tup p2
    refine .inr (.inr ⟨l, m, vs, us, rfl, rfl, sqT_mono sm h1, sqT_mono sm h2, by rw [dpAll_len k1, dpAll_len k2]; exact q.1, fun z => ?_, fun z z' => ?_, fun z z' p hp => ?_⟩)
    · subst z
      cases k1
      exact q.2 _ F H Grow.refl (.tup h2 k2)
    · subst z'
      cases k2
      have q2 := q.2 (.ref l) F H Grow.refl
      rw [List.append_nil] at q2
      exact q2 (.tup h1 k1)
    · exact q.2 _ _ _ (Grow.one (F := F) hp) (.tup (SqT.of upd_same) (dpAll_mono (same_upd sm hp) _ _ (dpAll_app k1 k2)))
  · exact q.elim, fun d1 d2 P P' m q => by
  unfold gAdd at q ⊢
  split at q
  · exact m _ q
  · exact ⟨q.1, m _ q.2⟩
  · exact ⟨q.1, m _ q.2⟩
  · exact q.elim⟩
/-- a list times a number: lists that stand by themselves -/
def rRepR : R2 := fun x y H Q => ∃ l k vs, x = .ref l ∧ y = .int k ∧ H l = some (.lst vs) ∧ -(2 ^ 63) ≤ k ∧ k < 2 ^ 63 ∧ vs.length * k.toNat ≤ sizeLine ∧
  ∀ p, H p = none → Q (.ref p) (upd H p (.lst (List.replicate k.toNat vs).flatten))
theorem op_repR : OpR X (binaryOp .Mult) rRepR := op_rep

/-! ### statements -/
def dPass : DSt := fun D e => D.nx e
theorem endL_le {K : PySem.W.Frag} {w : Wd} {A B : Ends} (h1 : ∀ σ H, A.nx σ H → B.nx σ H) (h2 : ∀ v H, A.rt v H → B.rt v H) (h3 : ∀ σ H, A.bk σ H → B.bk σ H) (h4 : ∀ σ H, A.ct σ H → B.ct σ H) : (endL K w A).le (endL K w B) where
  nx := fun e q F' ad' σ' H' R => h1 _ _ (q F' ad' σ' H' R)
  rt := fun d e q F' ad' σ' H' v R p => h2 _ _ (q F' ad' σ' H' v R p)
  rf := fun d e q F' ad' σ' H' a xs R z f p => h2 _ _ (q F' ad' σ' H' a xs R z f p)
  bk := fun e q F' ad' σ' H' R => h3 _ _ (q F' ad' σ' H' R)
  ct := fun e q F' ad' σ' H' R => h4 _ _ (q F' ad' σ' H' R)
theorem DEnds.le.refl (A : DEnds) : A.le A := ⟨fun _ q => q, fun _ _ q => q, fun _ _ q => q, fun _ q => q, fun _ q => q⟩
variable {st : Stmt} {rest sa sb : List Stmt} {ts us : DSt}
def dSeq (t u : DSt) : DSt := fun D e => t { D with nx := u D } e
theorem dss_nil : DSs X [] dPass := ⟨fun w => PSs.imp pss_nil fun D σ H ⟨F, ad, e, R, q⟩ => q F ad σ H R, fun A B e l q => l.nx e q⟩
theorem dss_cons (h1 : DS X st ts) (h2 : DSs X rest us) : DSs X (st :: rest) (dSeq ts us) := by
  refine ⟨fun w => PSs.imp (pss_cons (h1.run w) (h2.run w)) ?_, fun A B e l q => h1.mono { A with nx := us A } { B with nx := us B } _ ⟨fun e' q' => h2.mono _ _ _ l q', l.rt, l.rf, l.bk, l.ct⟩ q⟩
  rintro D σ H ⟨F, ad, e, R, q⟩
  exact ⟨F, ad, e, R, h1.mono { endL X.K w D with nx := us (endL X.K w D) } _ _ ⟨fun e' q' F' ad' σ' H' R' => ⟨F', ad', e', R', q'⟩, fun _ _ q => q, fun _ _ q => q, fun _ q => q, fun _ q => q⟩ q⟩
theorem dss_one (h1 : DS X st ts) : DSs X [st] ts := ⟨fun w => pss_one (h1.run w), h1.mono⟩
theorem ds_pass : DS X (.Pass pos) dPass := ⟨fun w => PS.imp ps_pass fun D σ H ⟨F, ad, e, R, q⟩ => q F ad σ H R, fun A B e l q => l.nx e q⟩
def dBreak : DSt := fun D e => D.bk e
def dCont : DSt := fun D e => D.ct e
theorem ds_break : DS X (.Break pos) dBreak := ⟨fun w => PS.imp ps_break fun D σ H ⟨F, ad, e, R, q⟩ => q F ad σ H R, fun A B e l q => l.bk e q⟩
theorem ds_cont : DS X (.Continue pos) dCont := ⟨fun w => PS.imp ps_continue fun D σ H ⟨F, ad, e, R, q⟩ => q F ad σ H R, fun A B e l q => l.ct e q⟩
def dDrop (f : DT) : DSt := fun D e => f e fun _ e' => D.nx e'
theorem ds_expr (ha : DE X a f) (hs : swapsWith a none pos.line X.env = pure false := by rfl) : DS X (.Expr a pos) (dDrop f) := by
  refine ⟨fun w => PS.imp (ps_expr (ha.run w) hs) ?_, fun A B e l q => ha.mono _ _ _ (fun d e' q' => l.nx e' q') q⟩
  rintro D σ H ⟨F, ad, e, R, q⟩
  exact ⟨F, ad, e, R, ha.mono _ _ _ (fun d e' q' F' ad' H' v s' R' p => q' F' ad' σ H' R') q⟩
def dRet (f : DT) : DSt := fun D e => f e D.rt
theorem ds_ret (ha : DE X a f) : DS X (.Return (some a) pos) (dRet f) := by
  refine ⟨fun w => PS.imp (ps_ret (ha.run w)) ?_, fun A B e l q => ha.mono _ _ _ l.rt q⟩
  rintro D σ H ⟨F, ad, e, R, q⟩
  exact ⟨F, ad, e, R, ha.mono _ _ _ (fun d e' q' F' ad' H' v s' R' p => q' F' ad' σ H' v R' p) q⟩
def dRetF (f : DF) : DSt := fun D e => f e D.rf
theorem ds_retF {f : DF} (ha : DFe X a f) : DS X (.Return (some a) pos) (dRetF f) := by
  refine ⟨fun w => PS.imp (ps_ret (ha.run w)) ?_, fun A B e l q => ha.mono _ _ _ l.rf q⟩
  rintro D σ H ⟨F, ad, e, R, q⟩
  exact ⟨F, ad, e, R, ha.mono _ _ _ (fun d e' q' F' ad' H' a xs s' R' z fr p => q' F' ad' σ H' a xs R' z fr p) q⟩
def dRetN : DSt := fun D e => D.rt .none e
theorem ds_retN : DS X (.Return none pos) dRetN := ⟨fun w => PS.imp ps_retN fun D σ H ⟨F, ad, e, R, q⟩ => q F ad σ H _ R .non, fun A B e l q => l.rt _ e q⟩
def dIfS (t : DB) (a b : DSt) : DSt := fun D e => t e fun k e' => if k = true then a D e' else b D e'
theorem ds_if (hc : DTe X c t) (ha : DSs X sa ts) (hb : DSs X sb us) : DS X (.If c sa sb pos) (dIfS t ts us) := by
  refine ⟨fun w => PS.imp (ps_if (hc.run w) (ha.run w) (hb.run w)) ?_, fun A B e l q => hc.mono _ _ _ (fun k e' q' => ?_) q⟩
  · rintro D σ H ⟨F, ad, e, R, q⟩
    refine ⟨F, ad, e, R, hc.mono _ _ _ (fun k e' q' F' ad' H' s' R' => ?_) q⟩
    cases k with
    | true => rw [if_pos rfl] at q' ⊢; exact ⟨F', ad', e', R', q'⟩
    | false => rw [if_neg Bool.false_ne_true] at q' ⊢; exact ⟨F', ad', e', R', q'⟩
  · cases k with
    | true => rw [if_pos rfl] at q' ⊢; exact ha.mono _ _ _ l q'
    | false => rw [if_neg Bool.false_ne_true] at q' ⊢; exact hb.mono _ _ _ l q'
def dNever : DSt := fun _ _ => False
theorem ds_never : DS X st dNever := ⟨fun w => PS.imp ps_never fun D σ H ⟨F, ad, e, R, q⟩ => q, fun A B e l q => q⟩
theorem dss_never {sts : List Stmt} : DSs X sts dNever := ⟨fun w => PSs.imp pss_never fun D σ H ⟨F, ad, e, R, q⟩ => q, fun A B e l q => q⟩
theorem ds_doc {z j pos'} : DS X (.Expr (.Constant (.str z) j pos) pos') dPass := ⟨fun w => PS.imp ps_doc fun D σ H ⟨F, ad, e, R, q⟩ => q F ad σ H R, fun A B e l q => l.nx e q⟩

/-! ### targets and stores -/
def dgName (i : Nat) : DTg := fun d e Q => Q (e.set i (.im d))
theorem dg_name {i : Nat} (hp : PG X x (gName i)) : DG X x (dgName i) := by
  refine ⟨fun w => PG.imp hp ?_, fun d e Q Q' m q => m _ q⟩
  rintro v σ H Q ⟨F, ad, e, d, R, p, q⟩
  exact q F ad _ H (Same.refl F) (R.set p)
def dgNil : DTgs := fun ds e Q => ds = [] ∧ Q e
def dgCons (g : DTg) (r : DTgs) : DTgs := fun ds e Q => match ds with
  | d :: es => g d e fun e' => r es e' Q
  | [] => False
theorem dgs_nil : DGs X [] dgNil := by
  refine ⟨fun w => PGs.imp pgs_nil ?_, fun d e Q Q' m q => ⟨q.1, m _ q.2⟩⟩
  rintro vs σ H Q ⟨F, ad, e, ds, R, p, q1, q2⟩
  subst q1
  cases p
  exact ⟨rfl, q2 F ad σ H (Same.refl F) R⟩
theorem dgs_cons {xs : List Expr} {gg : DTg} {r : DTgs} (h1 : DG X x gg) (h2 : DGs X xs r)
    (hs : (assignEach (x :: xs) X.env).map (·.2) = assign x X.env :: (assignEach xs X.env).map (·.2) := by rfl) : DGs X (x :: xs) (dgCons gg r) := by
  refine ⟨fun w => PGs.imp (pgs_cons (h1.run w) (h2.run w) hs) ?_, fun ds e Q Q' m q => ?_⟩
  · rintro vs σ H Q ⟨F, ad, e, ds, R, p, q⟩
    cases p with
    | nil => exact q.elim
    | cons p1 p2 =>
      refine ⟨_, _, rfl, F, ad, e, _, R, p1, h1.mono _ _ _ _ (fun e1 q1 F1 ad1 σ1 H1 s1 R1 => ?_) q⟩
      exact ⟨F1, ad1, e1, _, R1, dpAll_mono s1 _ _ p2, h2.mono _ _ _ _ (fun e2 q2 F2 ad2 σ2 H2 s2 R2 => q2 F2 ad2 σ2 H2 (s1.trans s2) R2) q1⟩
  · cases ds with
    | nil => exact q.elim
    | cons d es => exact h1.mono _ _ _ _ (fun e1 q1 => h2.mono _ _ _ _ m q1) q
def dgTup (n : Nat) (r : DTgs) : DTg := fun d e Q => match d with
  | .tuple ds => ds.length = n ∧ r ds e Q
  | _ => False
theorem dg_tup {xs : List Expr} {k : Nat} {r : DTgs} {n : Nat} (hc : X.calm = true) (h1 : DGs X xs r) (hn : (assignEach xs X.env).length = n := by rfl) (hst : (assignEach xs X.env).findIdx? (·.1) = none := by rfl) : DG X (.Tuple xs k pos) (dgTup n r) := by
  refine ⟨fun w => PG.imp (pg_tup hc (h1.run w) hn hst) ?_, fun d e Q Q' m q => ?_⟩
  · rintro v σ H Q ⟨F, ad, e, d, R, p, q⟩
    cases d with
    | tuple ds =>
      obtain ⟨a, vs, rfl, t1, t2⟩ := dp_tup p
      exact ⟨a, vs, rfl, sqT_mono R.sub t1, by rw [dpAll_len t2]; exact q.1, F, ad, e, ds, R, t2, q.2⟩
    | _ => exact q.elim
  · cases d with
    | tuple ds => exact ⟨q.1, h1.mono _ _ _ _ m q.2⟩
    | _ => exact q.elim
def dgLst (n : Nat) (r : DTgs) : DTg := fun d e Q => match d with
  | .list ds => ds.length = n ∧ r ds e Q
  | _ => False
theorem dg_lst {xs : List Expr} {k : Nat} {r : DTgs} {n : Nat} (hc : X.calm = true) (h1 : DGs X xs r) (hn : (assignEach xs X.env).length = n := by rfl) (hst : (assignEach xs X.env).findIdx? (·.1) = none := by rfl) : DG X (.Tuple xs k pos) (dgLst n r) := by
  refine ⟨fun w => PG.imp (pg_lst hc (h1.run w) hn hst) ?_, fun d e Q Q' m q => ?_⟩
  · rintro v σ H Q ⟨F, ad, e, d, R, p, q⟩
    cases d with
    | list ds =>
      obtain ⟨a, vs, rfl, t1, t2⟩ := dp_list p
      exact ⟨a, vs, rfl, R.sub.seq t1, by rw [dpAll_len t2]; exact q.1, F, ad, e, ds, R, t2, q.2⟩
    | _ => exact q.elim
  · cases d with
    | list ds => exact ⟨q.1, h1.mono _ _ _ _ m q.2⟩
    | _ => exact q.elim
def dAsg (f : DT) (gg : DTg) : DSt := fun D e => f e fun d e1 => gg d e1 D.nx
theorem asg_imp {gg : DTg} {tg : Expr} (ha : DE X a f) (hg : DG X tg gg) (w : Wd) : ∀ D σ H, SL X.K w (dAsg f gg) D σ H → tAsg (EL X.K w f) (GL X.K w gg) D σ H := by
  rintro D σ H ⟨F, ad, e, R, q⟩
  refine ⟨F, ad, e, R, ha.mono _ _ _ (fun d e1 q1 F1 ad1 H1 v s1 R1 p => ?_) q⟩
  exact ⟨F1, ad1, e1, d, R1, p, hg.mono _ _ _ _ (fun e2 q2 F2 ad2 σ2 H2 s2 R2 => q2 F2 ad2 σ2 H2 R2) q1⟩
theorem ds_asg {gg : DTg} {tg : Expr} (ha : DE X a f) (hg : DG X tg gg) (hs : swapsWithSole [tg] a pos.line X.env = pure false := by rfl) (hw : swappedStores [tg] a X.env = pure none := by rfl)
    (h1 : (assignEach [tg] X.env).map (·.2) = [assign tg X.env] := by rfl) : DS X (.Assign [tg] a pos) (dAsg f gg) :=
  ⟨fun w => PS.imp (ps_asg (ha.run w) (hg.run w) hs hw h1) (asg_imp ha hg w), fun A B e l q => ha.mono _ _ _ (fun d e1 q1 => hg.mono _ _ _ _ l.nx q1) q⟩
/-- name = value -/
theorem ds_set {i : Nat} {z : Str} {pos' : Pos} (hN : X.N.Nodup) (hi : X.N[i]? = some z) (hx : Loc X.env.scope z) (ha : DE X a f) (hs : swapsWith a (some (.Name z pos')) pos.line X.env = pure false := by rfl)
    (hf : X.fn z = true ∨ X.env.scope.names.lookup z = some .local := by first | exact .inl rfl | exact .inr rfl | assumption) : DS X (.Assign [.Name z pos'] a pos) (dAsg f (dgName i)) := by
  refine ⟨fun w => PS.imp (ps_set hN hi hx (ha.run w) hs hf) ?_, fun A B e l q => ha.mono _ _ _ (fun d e1 q1 => l.nx _ q1) q⟩
  rintro D σ H ⟨F, ad, e, R, q⟩
  exact ⟨F, ad, e, R, ha.mono _ _ _ (fun d e1 q1 F1 ad1 H1 v s1 R1 p => q1 F1 ad1 _ H1 (R1.set p)) q⟩
/-- name = a list of its own -/
def dAsgF (f : DF) (i : Nat) : DSt := fun D e => f e fun ds e1 => D.nx (e1.set i (.mu ds))
theorem ds_setF {f : DF} {i : Nat} {z : Str} {pos' : Pos} (hN : X.N.Nodup) (hi : X.N[i]? = some z) (hx : Loc X.env.scope z) (ha : DFe X a f) (hs : swapsWith a (some (.Name z pos')) pos.line X.env = pure false := by rfl)
    (hf : X.fn z = true ∨ X.env.scope.names.lookup z = some .local := by first | exact .inl rfl | exact .inr rfl | assumption) : DS X (.Assign [.Name z pos'] a pos) (dAsgF f i) := by
  refine ⟨fun w => PS.imp (ps_set hN hi hx (ha.run w) hs hf) ?_, fun A B e l q => ha.mono _ _ _ (fun d e1 q1 => l.nx _ q1) q⟩
  rintro D σ H ⟨F, ad, e, R, q⟩
  exact ⟨F, ad, e, R, ha.mono _ _ _ (fun d e1 q1 F1 ad1 H1 l xs s1 R1 z fr p => q1 F1 _ _ H1 (R1.setMu z fr p)) q⟩
/-- a, b = x, y; a, b, c = x, y, z -/
def dPar (i j : Nat) (r : DA) : DSt := fun D e => r e fun ds e1 => match ds with
  | [d1, d2] => D.nx ((e1.set i (.im d1)).set j (.im d2))
  | _ => False
theorem ds_par {i j : Nat} {r : DA} {es : List Expr} (hr : DAr X es r) (hp : ∀ ta, PA X es ta → PS X st (tPar i j ta)) : DS X st (dPar i j r) := by
  refine ⟨fun w => PS.imp (hp _ (hr.run w)) ?_, fun A B e l q => hr.mono _ _ _ (fun ds e1 q1 => ?_) q⟩
  · rintro D σ H ⟨F, ad, e, R, q⟩
    refine ⟨F, ad, e, R, hr.mono _ _ _ (fun ds e1 q1 F1 ad1 H1 vs s1 R1 p => ?_) q⟩
    match ds, p, q1 with
    | [d1, d2], .cons p1 (.cons p2 .nil), q1 => exact ⟨_, _, rfl, q1 F1 ad1 _ H1 ((R1.set p1).set p2)⟩
    | [], _, q1 => exact q1.elim
    | [_], _, q1 => exact q1.elim
    | _ :: _ :: _ :: _, _, q1 => exact q1.elim
  · match ds, q1 with
    | [d1, d2], q1 => exact l.nx _ q1
    | [], q1 => exact q1.elim
    | [_], q1 => exact q1.elim
    | _ :: _ :: _ :: _, q1 => exact q1.elim
def dPar3 (i j k : Nat) (r : DA) : DSt := fun D e => r e fun ds e1 => match ds with
  | [d1, d2, d3] => D.nx (((e1.set i (.im d1)).set j (.im d2)).set k (.im d3))
  | _ => False
theorem ds_par3 {i j k : Nat} {r : DA} {es : List Expr} (hr : DAr X es r) (hp : ∀ ta, PA X es ta → PS X st (tPar3 i j k ta)) : DS X st (dPar3 i j k r) := by
  refine ⟨fun w => PS.imp (hp _ (hr.run w)) ?_, fun A B e l q => hr.mono _ _ _ (fun ds e1 q1 => ?_) q⟩
  · rintro D σ H ⟨F, ad, e, R, q⟩
    refine ⟨F, ad, e, R, hr.mono _ _ _ (fun ds e1 q1 F1 ad1 H1 vs s1 R1 p => ?_) q⟩
    match ds, p, q1 with
    | [d1, d2, d3], .cons p1 (.cons p2 (.cons p3 .nil)), q1 => exact ⟨_, _, _, rfl, q1 F1 ad1 _ H1 (((R1.set p1).set p2).set p3)⟩
    | [], _, q1 => exact q1.elim
    | [_], _, q1 => exact q1.elim
    | [_, _], _, q1 => exact q1.elim
    | _ :: _ :: _ :: _ :: _, _, q1 => exact q1.elim
  · match ds, q1 with
    | [d1, d2, d3], q1 => exact l.nx _ q1
    | [], q1 => exact q1.elim
    | [_], q1 => exact q1.elim
    | [_, _], q1 => exact q1.elim
    | _ :: _ :: _ :: _ :: _, q1 => exact q1.elim
/-- name op= e -/
def dAug (i : Nat) (g : G2) (f : DT) : DSt := fun D e => match e[i]? with
  | some (.im d1) => f e fun d2 e1 => g d1 d2 fun d => D.nx (e1.set i (.im d))
  | _ => False
theorem ds_aug {i : Nat} {z : Str} {op : Operator} {r : R2} {g : G2} {pos' : Pos} (hN : X.N.Nodup) (hi : X.N[i]? = some z) (hx : Loc X.env.scope z) (ha : DE X a f) (ho : OpR X (inplaceOp op) r) (hg : OpD X.K r g)
    (hf : X.fn z = true ∨ X.env.scope.names.lookup z = some .local := by first | exact .inl rfl | exact .inr rfl | assumption) : DS X (.AugAssign (.Name z pos') op a pos) (dAug i g f) := by
  refine ⟨fun w => PS.imp (ps_aug (ti := r) hN hi hx (ha.run w) ho hf) ?_, fun A B e l q => ?_⟩
  · rintro D σ H ⟨F, ad, e, R, q⟩
    unfold dAug at q
    split at q
    · rename_i d1 he
      obtain ⟨v1, h1, p1⟩ := R.im i d1 he
      refine ⟨v1, h1, F, ad, e, R, ha.mono _ _ _ (fun d2 e1 q1 F1 ad1 H1 v2 s1 R1 p2 => ?_) q⟩
      refine hg.run F1 H1 v1 v2 d1 d2 _ R1.sub (dp_mono s1 _ _ p1) p2 (hg.mono _ _ _ _ (fun d q2 v F2 H2 gr p => ?_) q1)
      exact q2 F2 ad1 _ H2 ((gr.rel R1).set p)
    · exact q.elim
  · unfold dAug at q ⊢
    split at q
    · exact ha.mono _ _ _ (fun d2 e1 q1 => hg.mono _ _ _ _ (fun d q2 => l.nx _ q2) q1) q
    · exact q.elim

/-! ### lists of one's own, changed -/
/-- what a slot owns is replaced in place -/
def slPut : Option Sl → Ow → Option Sl
  | some (.mu _), ds => some (.mu ds)
  | some (.bo _), ds => some (.bo ds)
  | _, _ => none
def slOwn : Option Sl → Option Ow
  | some (.mu ds) => some ds
  | some (.bo ds) => some ds
  | _ => none
theorem Rel.owned {K : PySem.W.Frag} {w : Wd} {F : Hp} {ad : Nat → Addr} {σ : L2.St} {H : Hp} {e : Env} {i : Nat} {o : Ow} (R : Rel K w F ad σ H e) (q : slOwn e[i]? = some o) :
    ∃ p ho, σ[i]? = some (some (.ref p)) ∧ H p = some ho ∧ OwR K F ho o ∧ F p = none ∧
      ∀ ho' o', OwR K F ho' o' → ∃ s, slPut e[i]? o' = some s ∧ Rel K w F ad σ (upd H p ho') (e.set i s) := by
  cases z : e[i]? with
  | none => rw [z] at q; cases q
  | some s =>
    rw [z] at q
    cases s with
    | un => cases q
    | im d => cases q
    | mu ds' =>
      cases q
      obtain ⟨xs, s1, s2, s3, s4, _⟩ := R.mu i _ z
      exact ⟨_, xs, s1, s2, s4, s3, fun ys es p => ⟨_, rfl, R.mutate z p⟩⟩
    | bo ds' =>
      cases q
      obtain ⟨_, xs, s1, s2, s3, s4⟩ := R.bo i _ z
      exact ⟨_, xs, s1, s2, s4, s3, fun ys es p => ⟨_, rfl, R.mutateBo z p⟩⟩
/-- .. a list -/
def slLst (z : Option Sl) : Option (List D) := match slOwn z with
  | some (.lst ds) => some ds
  | _ => none
theorem slLst_own {z : Option Sl} {ds : List D} (h : slLst z = some ds) : slOwn z = some (.lst ds) := by
  unfold slLst at h
  split at h
  · rename_i e; cases h; exact e
  · cases h
theorem Rel.ownedL {K : PySem.W.Frag} {w : Wd} {F : Hp} {ad : Nat → Addr} {σ : L2.St} {H : Hp} {e : Env} {i : Nat} {ds : List D} (R : Rel K w F ad σ H e) (q : slLst e[i]? = some ds) :
    ∃ p xs, σ[i]? = some (some (.ref p)) ∧ H p = some (.lst xs) ∧ DqAll K F xs ds ∧ F p = none ∧
      ∀ ys es, DqAll K F ys es → ∃ s, slPut e[i]? (.lst es) = some s ∧ Rel K w F ad σ (upd H p (.lst ys)) (e.set i s) := by
  obtain ⟨p, ho, h1, h2, h3, h4, up⟩ := R.owned (slLst_own q)
  obtain ⟨xs, rfl, h5⟩ := owr_lst h3
  exact ⟨p, xs, h1, h2, h5, h4, fun ys es h => up _ _ (.lst h)⟩
/-- x.append(e), x a name -/
def dAppend (i : Nat) (f : DT) : DSt := fun D e => (∃ ds, slLst e[i]? = some ds) ∧ f e fun d e1 => match slLst e1[i]? with
  | some ds => ds.length < sizeLine ∧ ∀ s, slPut e1[i]? (.lst (ds ++ [d])) = some s → D.nx (e1.set i s)
  | none => False
theorem ds_append {i : Nat} (ha : DE X a f) (hp : ∀ t, PA X [a] t → PS X st (tDrop (tBM X.K "list" rAppend (tVar i) t))) (hs : starEach [a] X.env = (false, eval a X.env) :: starEach [] X.env := by rfl) : DS X st (dAppend i f) := by
  refine ⟨fun w => PS.imp (hp _ (pa_cons (ha.run w) pa_nil hs)) ?_, fun A B e l q => ⟨q.1, ha.mono _ _ _ (fun d e1 q1 => ?_) q.2⟩⟩
  · rintro D σ H ⟨F, ad, e, R, ⟨ds0, q0⟩, q⟩
    obtain ⟨p, xs0, h0, h1, _⟩ := R.ownedL q0
    refine ⟨_, h0, .inl ⟨rfl, _, SqL.of h1⟩, F, ad, e, R, ha.mono _ _ _ (fun d e1 q1 F1 ad1 H1 v s1 R1 p1 => ?_) q⟩
    cases z : slLst e1[i]? with
    | none => rw [z] at q1; exact q1.elim
    | some ds =>
      rw [z] at q1
      obtain ⟨p2, xs, h2, h3, h4, _, up⟩ := R1.ownedL z
      rw [h0] at h2
      cases h2
      obtain ⟨s, hs, R2⟩ := up (xs ++ [v]) (ds ++ [d]) (dpAll_app h4 (.cons p1 .nil))
      exact ⟨p, xs, v, rfl, rfl, h3, by rw [dpAll_len h4]; exact q1.1, q1.2 s hs F1 ad1 σ _ R2⟩
  · cases z : slLst e1[i]? with
    | none => rw [z] at q1; exact q1.elim
    | some ds => rw [z] at q1; exact ⟨q1.1, fun s hs => l.nx _ (q1.2 s hs)⟩
/-- x[k] = e, x a name -/
def dSetIx (i : Nat) (k f : DT) : DSt := fun D e => f e fun d e1 => (∃ ds, slLst e1[i]? = some ds) ∧ k e1 fun dk e2 => match dk, slLst e2[i]? with
  | .int n, some ds => match ixN ds.length n with
    | some j => ∀ s, slPut e2[i]? (.lst (ds.set j d)) = some s → D.nx (e2.set i s)
    | none => False
  | _, _ => False
theorem ds_setIx {i : Nat} {k : DT} (ha : DE X a f) (hk : DE X b k) (hp : ∀ te tk, PE X a te → PE X b tk → PS X st (tAsg te (gSub (tVar i) tk rSetL))) : DS X st (dSetIx i k f) := by
  refine ⟨fun w => PS.imp (hp _ _ (ha.run w) (hk.run w)) ?_, fun A B e l q => ha.mono _ _ _ (fun d e1 q1 => ⟨q1.1, hk.mono _ _ _ (fun dk e2 q2 => ?_) q1.2⟩) q⟩
  · rintro D σ H ⟨F, ad, e, R, q⟩
    refine ⟨F, ad, e, R, ha.mono _ _ _ (fun d e1 q1 F1 ad1 H1 v s1 R1 p1 => ?_) q⟩
    obtain ⟨⟨ds0, q0⟩, q1⟩ := q1
    obtain ⟨p, xs0, h0, _⟩ := R1.ownedL q0
    refine ⟨_, h0, F1, ad1, e1, R1, hk.mono _ _ _ (fun dk e2 q2 F2 ad2 H2 vk s2 R2 p2 => ?_) q1⟩
    cases dk with
    | int n =>
      cases z : slLst e2[i]? with
      | none => rw [z] at q2; exact q2.elim
      | some ds =>
        rw [z] at q2
        obtain ⟨p3, xs, h3, h4, h5, _, up⟩ := R2.ownedL z
        rw [h0] at h3
        cases h3
        have q3 : (match ixN ds.length n with | some j => ∀ s, slPut e2[i]? (.lst (ds.set j d)) = some s → (endL X.K w D).nx (e2.set i s) | none => False) := q2
        cases zj : ixN ds.length n with
        | none => rw [zj] at q3; exact q3.elim
        | some j =>
          rw [zj] at q3
          obtain ⟨s, hs, R3⟩ := up (xs.set j v) (ds.set j d) (dpAll_set j (dp_mono s2 _ _ p1) h5)
          exact ⟨p, xs, n, j, rfl, dp_int p2, h4, by rw [dpAll_len h5]; exact zj, q3 s hs F2 ad2 σ _ R3⟩
    | _ => exact q2.elim
  · cases dk with
    | int n =>
      cases z : slLst e2[i]? with
      | none => rw [z] at q2; exact q2.elim
      | some ds =>
        rw [z] at q2
        have q3 : (match ixN ds.length n with | some j => ∀ s, slPut e2[i]? (.lst (ds.set j d)) = some s → A.nx (e2.set i s) | none => False) := q2
        show (match ixN ds.length n with | some j => ∀ s, slPut e2[i]? (.lst (ds.set j d)) = some s → B.nx (e2.set i s) | none => False)
        cases zj : ixN ds.length n with
        | none => rw [zj] at q3; exact q3.elim
        | some j => rw [zj] at q3; exact fun s hs => l.nx _ (q3 s hs)
    | _ => exact q2.elim

/-! ### while -/
def dWhile (c : DB) (b : DSt) : DSt := fun D e => ∃ W : Nat → Env → Prop, (∃ m, W m e) ∧ ∀ m e, W m e → c e fun k e1 => if k = true then b { D with nx := fun e' => ∃ m', m' < m ∧ W m' e', ct := fun e' => ∃ m', m' < m ∧ W m' e', bk := D.nx } e1 else D.nx e1
theorem ds_while (hp : PassesOwn (model X.prog X.w) X.A X.env X.xe) (hc : DTe X c t) (hb : DSs X sa ts) : DS X (.While c sa [] pos) (dWhile t ts) := by
  refine ⟨fun w => PS.imp (ps_while hp (hc.run w) (hb.run w)) ?_, fun A B e l q => ?_⟩
  · rintro D σ H ⟨F, ad, e, R, W, ⟨m0, w0⟩, q⟩
    refine ⟨fun m σ H => ∃ F ad e, Rel X.K w F ad σ H e ∧ W m e, ⟨m0, F, ad, e, R, w0⟩, ?_⟩
    rintro m σ H ⟨F, ad, e, R, wm⟩
    refine ⟨F, ad, e, R, hc.mono _ _ _ (fun k e1 q1 F1 ad1 H1 s1 R1 => ?_) (q m e wm)⟩
    cases k with
    | true =>
      rw [if_pos rfl] at q1 ⊢
      refine ⟨fun σ' H' => ∃ F ad e, Rel X.K w F ad σ' H' e ∧ ∃ m', m' < m ∧ W m' e, fun σ' H' ⟨F, ad, e, R, m', l, wm'⟩ => ⟨m', l, F, ad, e, R, wm'⟩, ?_⟩
      refine ⟨F1, ad1, e1, R1, hb.mono { endL X.K w D with nx := fun e' => ∃ m', m' < m ∧ W m' e', ct := fun e' => ∃ m', m' < m ∧ W m' e', bk := (endL X.K w D).nx } _ _ ⟨?_, fun _ _ q => q, fun _ _ q => q, fun _ q => q, ?_⟩ q1⟩
      · intro e' q' F' ad' σ' H' R'; exact ⟨F', ad', e', R', q'⟩
      · intro e' q' F' ad' σ' H' R'; exact ⟨F', ad', e', R', q'⟩
    | false =>
      rw [if_neg Bool.false_ne_true] at q1 ⊢
      exact q1 F1 ad1 σ H1 R1
  · obtain ⟨W, w0, q⟩ := q
    refine ⟨W, w0, fun m e wm => hc.mono _ _ _ (fun k e1 q1 => ?_) (q m e wm)⟩
    cases k with
    | true => rw [if_pos rfl] at q1 ⊢; exact hb.mono { A with nx := fun e' => ∃ m', m' < m ∧ W m' e', ct := fun e' => ∃ m', m' < m ∧ W m' e', bk := A.nx } _ _ ⟨fun _ q => q, l.rt, l.rf, l.nx, fun _ q => q⟩ q1
    | false => rw [if_neg Bool.false_ne_true] at q1 ⊢; exact l.nx _ q1
/-- by a word and a measure of the slots -/
theorem dwhile_by {c : DB} {b : DSt} {D : DEnds} {e : Env} (Pv : Env → Prop) (μ : Env → Nat) (h0 : Pv e)
    (mono : ∀ e (Q Q' : Bool → Env → Prop), (∀ k e1, Q k e1 → Q' k e1) → c e Q → c e Q')
    (hs : ∀ e, Pv e → c e fun k e1 => if k = true then b { D with nx := fun e' => Pv e' ∧ μ e' < μ e, ct := fun e' => Pv e' ∧ μ e' < μ e, bk := D.nx } e1 else D.nx e1)
    (bm : ∀ (A B : DEnds) e, A.le B → b A e → b B e) : dWhile c b D e := by
  refine ⟨fun m e => Pv e ∧ μ e = m, ⟨_, h0, rfl⟩, fun m e ⟨p, hm⟩ => mono _ _ _ (fun k e1 q => ?_) (hs e p)⟩
  cases k with
  | true =>
    rw [if_pos rfl] at q ⊢
    subst hm
    exact bm { D with nx := fun e' => Pv e' ∧ μ e' < μ e, ct := fun e' => Pv e' ∧ μ e' < μ e, bk := D.nx } _ _ ⟨fun e' z => ⟨_, z.2, z.1, rfl⟩, fun _ _ z => z, fun _ _ z => z, fun _ z => z, fun e' z => ⟨_, z.2, z.1, rfl⟩⟩ q
  | false => rw [if_neg Bool.false_ne_true] at q ⊢; exact q

/-! ### what is walked -/
/-- a source of items: the items are known when the walk begins -/
abbrev DI := Env → (List D → Env → Prop) → Prop
/-- the iterator J yields the data ds one after the other -/
structure Yields (K : PySem.W.Frag) (F : Hp) (J : It) (ds : List D) : Prop where
  go : ∀ (i : Nat) (H : Hp), Same F H → i < ds.length → J.go i H
  stop : ∀ (i : Nat) (H : Hp), Same F H → ds.length ≤ i → J.stop i H
  yld : ∀ (i : Nat) (H H' : Hp) (x : V) (d : D), Same F H → J.yld i H x H' → ds[i]? = some d → ∃ F', Dq K F' x d ∧ ((F' = F ∧ H' = H) ∨ ∃ p o, H p = none ∧ F' = upd F p o ∧ H' = upd H p o)
def IL (K : PySem.W.Frag) (w : Wd) (f : DI) : TI := fun σ H R => ∃ F ad e, Rel K w F ad σ H e ∧ f e fun ds e' => ∀ F' ad' H' J, Same F F' → Rel K w F' ad' σ H' e' → Yields K F' J ds → R J H'
structure DIt (X : Cx) (tg x : Expr) (f : DI) : Prop where
  run : ∀ w, PI X tg x (IL X.K w f)
  mono : ∀ e (Q Q' : List D → Env → Prop), (∀ ds e', Q ds e' → Q' ds e') → f e Q → f e Q'
theorem PI.imp {tg x : Expr} {t t' : TI} (h : PI X tg x t) (i : ∀ σ H R, t' σ H R → t σ H R) : PI X tg x t' := ⟨fun p s σ H R I q => h.run p s σ H R I (i σ H R q)⟩
theorem yields_list {K : PySem.W.Frag} {F : Hp} {a : Addr} {vs : List V} {ds : List D} (h : SqL K F a vs) (p : DqAll K F vs ds) (inj : ∀ H, Same F H → ∀ us, SqL K H a us → us = vs) : Yields K F (Itl K a) ds where
  go := fun i H s l => by
    have l' : i < vs.length := by rw [dpAll_len p]; exact l
    exact ⟨vs, vs[i], s.seq h, List.getElem?_eq_getElem l'⟩
  stop := fun i H s l => ⟨vs, s.seq h, by rw [dpAll_len p]; exact l⟩
  yld := fun i H H' x d s ⟨e, k⟩ hd => by
    obtain ⟨x', h1, h2⟩ := dpAll_got p hd
    have := k vs (s.seq h)
    rw [h1] at this
    cases this
    exact ⟨F, h2, .inl ⟨rfl, e⟩⟩
theorem yields_tup {K : PySem.W.Frag} {F : Hp} {a : Addr} {vs : List V} {ds : List D} (h : SqT K F a vs) (p : DqAll K F vs ds) : Yields K F (Itt K a) ds where
  go := fun i H s l => by
    have l' : i < vs.length := by rw [dpAll_len p]; exact l
    exact ⟨vs, vs[i], sqT_mono s h, List.getElem?_eq_getElem l'⟩
  stop := fun i H s l => ⟨vs, sqT_mono s h, by rw [dpAll_len p]; exact l⟩
  yld := fun i H H' x d s ⟨e, k⟩ hd => by
    obtain ⟨x', h1, h2⟩ := dpAll_got p hd
    have := k vs (sqT_mono s h)
    rw [h1] at this
    cases this
    exact ⟨F, h2, .inl ⟨rfl, e⟩⟩
def dItL (f : DT) : DI := fun e Q => f e fun d e' => match d with
  | .list ds => Q ds e'
  | _ => False
theorem di_list {tg : Expr} (ha : DE X a f) : DIt X tg a (dItL f) := by
  refine ⟨fun w => PI.imp (pi_list (ha.run w)) ?_, fun e Q Q' m q => ha.mono _ _ _ (fun d e' q' => ?_) q⟩
  · rintro σ H R ⟨F, ad, e, Rl, q⟩
    refine ⟨F, ad, e, Rl, ha.mono _ _ _ (fun d e' q' F' ad' H' v s' R' p => ?_) q⟩
    cases d with
    | list ds =>
      obtain ⟨l, vs, rfl, h1, h2⟩ := dp_list p
      refine ⟨l, rfl, ⟨vs, R'.sub.seq h1⟩, q' F' ad' H' _ s' R' ⟨fun i H s lt => ?_, fun i H s lt => ⟨vs, s.seq h1, by rw [dpAll_len h2]; exact lt⟩, fun i H H'' x d s ⟨e1, k⟩ hd => ?_⟩⟩
      · have l' : i < vs.length := by rw [dpAll_len h2]; exact lt
        exact ⟨vs, vs[i], s.seq h1, List.getElem?_eq_getElem l'⟩
      · obtain ⟨x', g1, g2⟩ := dpAll_got h2 hd
        have := k vs (s.seq h1)
        rw [g1] at this
        cases this
        exact ⟨F', g2, .inl ⟨rfl, e1⟩⟩
    | _ => exact q'.elim
  · cases d with
    | list ds => exact m _ _ q'
    | _ => exact q'.elim
def dItT (f : DT) : DI := fun e Q => f e fun d e' => match d with
  | .tuple ds => Q ds e'
  | _ => False
theorem di_tup {tg : Expr} (ha : DE X a f) : DIt X tg a (dItT f) := by
  refine ⟨fun w => PI.imp (pi_tup (ha.run w)) ?_, fun e Q Q' m q => ha.mono _ _ _ (fun d e' q' => ?_) q⟩
  · rintro σ H R ⟨F, ad, e, Rl, q⟩
    refine ⟨F, ad, e, Rl, ha.mono _ _ _ (fun d e' q' F' ad' H' v s' R' p => ?_) q⟩
    cases d with
    | tuple ds =>
      obtain ⟨l, vs, rfl, h1, h2⟩ := dp_tup p
      exact ⟨l, rfl, ⟨vs, sqT_mono R'.sub h1⟩, q' F' ad' H' _ s' R' (yields_tup h1 h2)⟩
    | _ => exact q'.elim
  · cases d with
    | tuple ds => exact m _ _ q'
    | _ => exact q'.elim
/-- lo, lo + 1, .. , n of them -/
def upto (lo : Int) (n : Nat) : List D := (List.range n).map fun i => .int (lo + (i : Nat))
theorem upto_len (lo : Int) (n : Nat) : (upto lo n).length = n := by unfold upto; rw [List.length_map, List.length_range]
theorem upto_get (lo : Int) (n i : Nat) {d : D} (h : (upto lo n)[i]? = some d) : i < n ∧ d = .int (lo + (i : Nat)) := by
  unfold upto at h
  rw [List.getElem?_map] at h
  by_cases l : i < n
  · rw [List.getElem?_range l] at h
    exact ⟨l, (Option.some.inj h).symm⟩
  · rw [List.getElem?_eq_none (by rw [List.length_range]; omega)] at h
    cases h
theorem yields_range {K : PySem.W.Frag} {F : Hp} (lo : Int) (n : Nat) : Yields K F (Itr lo n) (upto lo n) where
  go := fun i H s l => by rw [upto_len] at l; exact l
  stop := fun i H s l => by rw [upto_len] at l; exact l
  yld := fun i H H' x d s ⟨e1, e2⟩ hd => by
    obtain ⟨_, rfl⟩ := upto_get lo n i hd
    subst e2
    exact ⟨F, .int _, .inl ⟨rfl, e1⟩⟩
def dRng1 (r : DA) : DI := fun e Q => r e fun ds e' => match ds with
  | [.int j] => -(2 ^ 62) ≤ j ∧ j < 2 ^ 62 ∧ Q (upto 0 j.toNat) e'
  | _ => False
def dRng2 (r : DA) : DI := fun e Q => r e fun ds e' => match ds with
  | [.int i, .int j] => (-(2 ^ 62) ≤ i ∧ i < 2 ^ 62 ∧ -(2 ^ 62) ≤ j ∧ j < 2 ^ 62) ∧ Q (upto i (j - i).toNat) e'
  | _ => False
theorem di_rng1 {tg : Expr} {es : List Expr} {r : DA} (hr : DAr X es r) (hp : ∀ ta, PA X es ta → PI X tg x (iRng1 ta)) : DIt X tg x (dRng1 r) := by
  refine ⟨fun w => PI.imp (hp _ (hr.run w)) ?_, fun e Q Q' m q => hr.mono _ _ _ (fun ds e' q' => ?_) q⟩
  · rintro σ H R ⟨F, ad, e, Rl, q⟩
    refine ⟨F, ad, e, Rl, hr.mono _ _ _ (fun ds e' q' F' ad' H' vs s' R' p => ?_) q⟩
    split at q'
    · cases p with
      | cons p pn => cases pn; rw [dp_int p]; exact ⟨_, rfl, q'.1, q'.2.1, q'.2.2 F' ad' H' _ s' R' (yields_range _ _)⟩
    · exact q'.elim
  · split at q'
    · exact ⟨q'.1, q'.2.1, m _ _ q'.2.2⟩
    · exact q'.elim
theorem di_rng2 {tg : Expr} {es : List Expr} {r : DA} (hr : DAr X es r) (hp : ∀ ta, PA X es ta → PI X tg x (iRng2 ta)) : DIt X tg x (dRng2 r) := by
  refine ⟨fun w => PI.imp (hp _ (hr.run w)) ?_, fun e Q Q' m q => hr.mono _ _ _ (fun ds e' q' => ?_) q⟩
  · rintro σ H R ⟨F, ad, e, Rl, q⟩
    refine ⟨F, ad, e, Rl, hr.mono _ _ _ (fun ds e' q' F' ad' H' vs s' R' p => ?_) q⟩
    split at q'
    · cases p with
      | cons p pn =>
        cases pn with
        | cons p2 pn => cases pn; rw [dp_int p, dp_int p2]; exact ⟨_, _, rfl, q'.1, q'.2 F' ad' H' _ s' R' (yields_range _ _)⟩
    · exact q'.elim
  · split at q'
    · exact ⟨q'.1, m _ _ q'.2⟩
    · exact q'.elim

/-! ### for -/
def dFor (wi : DI) (gg : DTg) (b : DSt) : DSt := fun D e => wi e fun ds e1 => ∃ Pv : Nat → Env → Prop, Pv 0 e1 ∧
  (∀ i d e2, ds[i]? = some d → Pv i e2 → gg d e2 fun e3 => b { D with nx := Pv (i + 1), ct := Pv (i + 1), bk := D.nx } e3) ∧ ∀ e2, Pv ds.length e2 → D.nx e2
theorem ds_for {tg : Expr} {wi : DI} {gg : DTg} (hp : PassesOwn (model X.prog X.w) X.A X.env X.xe) (hc : X.calm = true) (hi : DIt X tg a wi) (hg : DG X tg gg) (hb : DSs X sa ts)
    (hs : ∀ z, foldedSetIterable a X.env z = pure z := by intro _; rfl) : DS X (.For tg a sa [] pos) (dFor wi gg ts) := by
  refine ⟨fun w => ⟨fun pins s σ H D I q => ?_⟩, fun A B e l q => ?_⟩
  · -- the source and the body are read in unlike worlds
    obtain ⟨F, ad, e, R, q⟩ := q
    have hfor : ∀ tb : TS, PSs X sa tb → PS X (.For tg a sa [] pos) (tFor (IL X.K w wi) (fun v σ H Q => ∃ w' : Wd, GL X.K w' gg v σ H fun σ' H' => True ∧ Q σ' H') tb) := fun tb hb' =>
      ps_for hp hc (hi.run w) ⟨fun pins s σ H v u Q I r ⟨w', q⟩ => thn ((hg.run w').run pins s σ H v u _ I r q) fun _ s' ⟨σ', H', I', _, q'⟩ => ⟨σ', H', I', q'⟩⟩ hb' hs
    have hb2 : PSs X sa (fun D σ H => ∃ w' : Wd, SL X.K w' ts D σ H) := ⟨fun pins s σ H D I ⟨w', q⟩ => (hb.run w').run pins s σ H D I q⟩
    refine (hfor _ hb2).run pins s σ H D I ⟨F, ad, e, R, hi.mono _ _ _ (fun ds e1 q1 F1 ad1 H1 J s1 R1 Y => ?_) q⟩
    obtain ⟨Pv, p0, hstep, hend⟩ := q1
    refine ⟨fun i m σ H => ∃ F ad e, Same F1 F ∧ Rel X.K w F ad σ H e ∧ Pv i e ∧ i + m = ds.length, ⟨ds.length, F1, ad1, e1, Same.refl F1, R1, p0, by omega⟩, ?_⟩
    rintro i m σ H ⟨F2, ad2, e2, s2, R2, pi, hm⟩
    by_cases hlt : i < ds.length
    · refine .inr ⟨Y.go i H (s2.trans R2.sub) hlt, fun σ' H' => ∃ F ad e, Same F1 F ∧ Rel X.K w F ad σ' H' e ∧ Pv (i + 1) e, fun σ' H' ⟨F, ad, e, a1, a2, a3⟩ => ⟨m - 1, by omega, F, ad, e, a1, a2, a3, by omega⟩, fun x H' hy => ?_⟩
      obtain ⟨d, hd⟩ : ∃ d, ds[i]? = some d := ⟨_, List.getElem?_eq_getElem hlt⟩
      obtain ⟨F3, pd, gr⟩ := Y.yld i H H' x d (s2.trans R2.sub) hy hd
      -- the world of this turn knows all that is known by now
      have R3 : Σ' F4 : Hp, PLift (Same F2 F4 ∧ Rel X.K w F4 ad2 σ H' e2 ∧ Dq X.K F4 x d) := by
        by_cases hh : F3 = F1 ∧ H' = H
        · obtain ⟨h1, h2⟩ := hh
          subst h2
          subst h1
          exact ⟨F2, ⟨Same.refl _, R2, dp_mono s2 _ _ pd⟩⟩
        · have gr' : ∃ p o, H p = none ∧ F3 = upd F1 p o ∧ H' = upd H p o := by
            rcases gr with g | g
            · exact absurd g hh
            · exact g
          have ex : ∃ F4 : Hp, Same F2 F4 ∧ Rel X.K w F4 ad2 σ H' e2 ∧ Dq X.K F4 x d := by
            obtain ⟨p, o, h1, h2, h3⟩ := gr'
            subst h2
            subst h3
            exact ⟨upd F2 p o, same_upd R2.sub h1, R2.grow h1, dp_mono (same_upd2 s2) _ _ pd⟩
          exact ⟨ex.choose, ⟨ex.choose_spec⟩⟩
      obtain ⟨F4, ⟨s4, R4, p4⟩⟩ := R3
      refine ⟨{ w with F0 := F4 }, F4, ad2, e2, d, R4.known, p4, hg.mono _ _ _ _ (fun e3 q3 F5 ad5 σ5 H5 s5 R5 => ⟨trivial, ?_⟩) (hstep i d e2 hd pi)⟩
      refine ⟨{ w with F0 := F4 }, F5, ad5, e3, R5, hb.mono { endL X.K w D with nx := Pv (i + 1), ct := Pv (i + 1), bk := (endL X.K w D).nx } _ _ ⟨?_, ?_, ?_, ?_, ?_⟩ q3⟩
      · intro e' q' F' ad' σ' H' R'
        exact ⟨F', ad', e', s2.trans (s4.trans R'.old), R4.unknown R', q'⟩
      · intro d' e' q' F' ad' σ' H' v R' p'
        exact q' F' ad' σ' H' v (R4.unknown R') p'
      · intro d' e' q' F' ad' σ' H' a' xs' R' z' fr' p'
        exact q' F' ad' σ' H' a' xs' (R4.unknown R') z' ⟨fr'.fF, fr'.f0, fr'.fm, fr'.fb⟩ p'
      · intro e' q' F' ad' σ' H' R'
        exact q' F' ad' σ' H' (R4.unknown R')
      · intro e' q' F' ad' σ' H' R'
        exact ⟨F', ad', e', s2.trans (s4.trans R'.old), R4.unknown R', q'⟩
    · have he : i = ds.length := by omega
      subst he
      exact .inl ⟨Y.stop _ H (s2.trans R2.sub) (Nat.le_refl _), hend e2 pi F2 ad2 σ H R2⟩
  · refine hi.mono _ _ _ (fun ds e1 ⟨Pv, p0, h1, h2⟩ => ⟨Pv, p0, fun i d e2 hd pi => ?_, fun e2 pi => l.nx _ (h2 e2 pi)⟩) q
    exact hg.mono _ _ _ _ (fun e3 q3 => hb.mono { A with nx := Pv (i + 1), ct := Pv (i + 1), bk := A.nx } _ _ ⟨fun _ q => q, l.rt, l.rf, l.nx, fun _ q => q⟩ q3) (h1 i d e2 hd pi)
end
end DL

/-! The D layer, part 4: comprehensions, calls of defs, defs. -/
namespace DL
open PySem PySem.Spec PyProof.Rows L2

/-! ### a new list that nobody holds: adopted, written -/
section
variable {K : PySem.W.Frag} {w : Wd} {F : Hp} {ad : Nat → Addr} {σ : L2.St} {H : Hp} {e : Env} {a : Addr} {xs : List V} {ds : List D}
theorem Rel.adoptG {ho : HO} {o : Ow} {d : D} (R : Rel K w F ad σ H e) (hH : H a = some ho) (fr : Fresh w F ad e a) (p : OwR K F ho o) (up : ∀ F' : Hp, F' a = some ho → OwR K F' ho o → Dq K F' (.ref a) d) :
    Rel K w (upd F a ho) ad σ H e ∧ Same F (upd F a ho) ∧ Dq K (upd F a ho) (.ref a) d := by
  have hF : Same F (upd F a ho) := fun b u q => by
    by_cases z : b = a
    · subst z; rw [fr.fF] at q; cases q
    · rw [upd_ne z]; exact q
  have dn : ∀ b, b ≠ a → F b = none → (upd F a ho) b = none := fun b z q => by rw [upd_ne z]; exact q
  refine ⟨?_, hF, up _ upd_same (ow_mono hF p)⟩
  exact {
    sub := fun b u q => by
      by_cases z : b = a
      · subst z; rw [upd_same] at q; cases q; exact hH
      · rw [upd_ne z] at q; exact R.sub b u q
    old := R.old.trans hF
    dom := R.dom
    fr := fun b u q1 q2 q3 => by
      obtain ⟨b1, b2⟩ := R.fr b u q1 q2 q3
      refine ⟨b1, dn b (fun z => ?_) b2⟩
      subst z
      rw [fr.f0] at q1; cases q1
    len := R.len
    im := fun j d q => by obtain ⟨v, b1, b2⟩ := R.im j d q; exact ⟨v, b1, dp_mono hF _ _ b2⟩
    mu := fun j es q => by
      obtain ⟨ys, b1, b2, b3, b4, b5⟩ := R.mu j es q
      exact ⟨ys, b1, b2, dn _ (fr.fm j es q) b3, ow_mono hF b4, b5⟩
    bo := fun j es q => by
      obtain ⟨b0, ys, b1, b2, b3, b4⟩ := R.bo j es q
      exact ⟨b0, ys, b1, b2, dn _ (fun z => fr.fb b0 z.symm) b3, ow_mono hF b4⟩
    hbo := R.hbo
    inj := R.inj
    nbo := R.nbo
    ubo := R.ubo }
theorem Rel.write {o : HO} (R : Rel K w F ad σ H e) (fr : Fresh w F ad e a) : Rel K w F ad σ (upd H a o) e where
  sub := fun b u q => by rw [upd_ne (fun z => by subst z; rw [fr.fF] at q; cases q)]; exact R.sub b u q
  old := R.old
  dom := fun b u q => by
    obtain ⟨u', q'⟩ := R.dom b u q
    by_cases z : b = a
    · subst z; exact ⟨_, upd_same⟩
    · exact ⟨u', by rw [upd_ne z]; exact q'⟩
  fr := fun b u q1 q2 q3 => by
    obtain ⟨b1, b2⟩ := R.fr b u q1 q2 q3
    exact ⟨by rw [upd_ne (fun z => by subst z; rw [fr.f0] at q1; cases q1)]; exact b1, b2⟩
  len := R.len
  im := R.im
  mu := fun j es q => by
    obtain ⟨ys, b1, b2, b3⟩ := R.mu j es q
    exact ⟨ys, b1, by rw [upd_ne (fr.fm j es q)]; exact b2, b3⟩
  bo := fun j es q => by
    obtain ⟨b0, ys, b1, b2, b3⟩ := R.bo j es q
    exact ⟨b0, ys, b1, by rw [upd_ne (fun z => fr.fb b0 z.symm)]; exact b2, b3⟩
  hbo := R.hbo
  inj := R.inj
  nbo := R.nbo
  ubo := R.ubo
/-- what is laid here stays where it is, whatever a reading from here does -/
theorem Rel.keeps {ho : HO} {F' : Hp} {ad' : Nat → Addr} {σ' : L2.St} {H' : Hp} {e' : Env} (R : Rel K w F ad σ H e) (q : Rel K (here w F ad H e) F' ad' σ' H' e') (hH : H a = some ho) (fr : Fresh w F ad e a) : H' a = some ho ∧ Fresh w F' ad' e' a := by
  obtain ⟨h1, h2⟩ := q.fr a _ hH fr.fF (fun z => by
    rcases z with ⟨i, ds, z1, z2⟩ | ⟨z1, z2⟩
    · exact fr.fm i ds z1 z2
    · exact fr.fb z1 z2)
  refine ⟨h1, h2, fr.f0, fun i ds z z' => ?_, fr.fb⟩
  obtain ⟨_, _, _, _, _, h5⟩ := q.mu i ds z
  rw [z'] at h5
  rcases h5 with h5 | h5
  · have h5' : H a = none := h5
    rw [hH] at h5'; cases h5'
  · rcases h5 with ⟨j, es, z1, z2⟩ | ⟨z1, z2⟩
    · exact fr.fm j es z1 z2
    · exact fr.fb z1 z2
end

section
variable {X : Cx} {x y a b c elt : Expr} {f g h : DT} {t u : DB} {pos : Pos}

/-- a list of one's own as data -/
def dFrz (f : DF) : DT := fun e Q => f e fun o e' => match owD o with
  | some d => Q d e'
  | none => False
/-- a new thing becomes data -/
theorem Rel.adoptD {K : PySem.W.Frag} {w : Wd} {F : Hp} {ad : Nat → Addr} {σ : L2.St} {H : Hp} {e : Env} {a : Addr} {ho : HO} {o : Ow} {d : D} (R : Rel K w F ad σ H e) (hH : H a = some ho) (fr : Fresh w F ad e a) (p : OwR K F ho o) (hd : owD o = some d) :
    (∃ F', Same F F' ∧ Rel K w F' ad σ H e ∧ Dq K F' (.ref a) d) ∨ (Mut (some ho) ∧ ∀ od, ∃ F', Same F F' ∧ Rel K w F' ad σ (upd H a (.frz od ho)) e ∧ Dq K F' (.ref a) d) := by
  cases p with
  | lst r =>
    have hd : some (PyData.list _) = some d := hd
    cases hd
    obtain ⟨R2, sm, dp⟩ := R.adoptG (d := .list _) hH fr (.lst r) (fun F' h r' => by
      cases r' with
      | lst r' => exact .lst (Rd.of h) r')
    exact .inl ⟨_, sm, R2, dp⟩
  | @dct xs ds r =>
    have hd : some (PyData.dict (ds.map fun p => (kD p.1, p.2))) = some d := hd
    cases hd
    refine .inr ⟨trivial, fun od => ?_⟩
    have R1 := R.write (o := .frz od (.dK xs)) fr
    obtain ⟨R2, sm, dp⟩ := R1.adoptG (o := .dctZ ds) (d := .dict (ds.map fun p => (kD p.1, p.2))) upd_same fr (.dctZ r) (fun F' z r' => by
      cases r' with
      | dctZ r' => exact .dct z (kvs_dq r'))
    exact ⟨_, sm, R2, dp⟩
  | dtu r => exact absurd hd (fun z => nomatch z)
  | dctZ r => exact absurd hd (fun z => nomatch z)
  | set => exact absurd hd (fun z => nomatch z)
theorem de_frz {f : DF} (ha : DFe X x f) : DE X x (dFrz f) := by
  refine ⟨fun w => PE.imp (pe_may (ha.run w)) ?_, fun e Q Q' m q => ha.mono _ _ _ (fun o e' q' => ?_) q⟩
  · rintro σ H Q ⟨F, ad, e, R, q⟩
    refine ⟨F, ad, e, R, ha.mono _ _ _ (fun o e' q' F' ad' H' l xs s' R' z fr p => ?_) q⟩
    cases y : owD o with
    | none => rw [y] at q'; exact q'.elim
    | some d =>
      rw [y] at q'
      rcases R'.adoptD z fr p y with ⟨F2, sm, R2, dp⟩ | ⟨mu, k⟩
      · exact .inl (q' _ ad' H' _ (s'.trans sm) R2 dp)
      · refine .inr ⟨l, xs, rfl, z, mu, fun od => ?_⟩
        obtain ⟨F2, sm, R2, dp⟩ := k od
        exact q' _ ad' _ _ (s'.trans sm) R2 dp
  · cases y : owD o with
    | none => rw [y] at q'; exact q'.elim
    | some d => rw [y] at q'; exact m _ _ q'

theorem frz_mono {f : DF} (hm : ∀ e (Q Q' : Ow → Env → Prop), (∀ d e', Q d e' → Q' d e') → f e Q → f e Q') : ∀ e (Q Q' : D → Env → Prop), (∀ d e', Q d e' → Q' d e') → dFrz f e Q → dFrz f e Q' := fun e Q Q' m q => hm _ _ _ (fun o e' q' => by
  cases y : owD o with
  | none => rw [y] at q'; exact q'.elim
  | some d => rw [y] at q'; exact m _ _ q') q
/-! ### comprehensions -/
def wipeE (e : Env) : List Nat → Env
  | [] => e
  | v :: vs => (wipeE e vs).set v .un
theorem wipeE_len (e : Env) : ∀ vs, (wipeE e vs).length = e.length
  | [] => rfl
  | v :: vs => by show ((wipeE e vs).set v .un).length = _; rw [List.length_set, wipeE_len e vs]
theorem wipeE_get {e : Env} {σ : L2.St} : ∀ {vs : List Nat} {j : Nat} {s : Sl}, (wipeE e vs)[j]? = some s → s = .un ∨ (e[j]? = some s ∧ (wipe σ vs)[j]? = σ[j]?)
  | [], j, s, h => .inr ⟨h, rfl⟩
  | v :: vs, j, s, h => by
    have h' : ((wipeE e vs).set v .un)[j]? = some s := h
    rw [List.getElem?_set] at h'
    by_cases z : v = j
    · rw [if_pos z] at h'
      by_cases l : v < (wipeE e vs).length
      · rw [if_pos l] at h'; exact .inl (Option.some.inj h').symm
      · rw [if_neg l] at h'; cases h'
    · rw [if_neg z] at h'
      rcases wipeE_get (σ := σ) h' with q | ⟨q1, q2⟩
      · exact .inl q
      · refine .inr ⟨q1, ?_⟩
        show ((wipe σ vs).set v none)[j]? = _
        rw [List.getElem?_set, if_neg z]
        exact q2
theorem Rel.wiped {K : PySem.W.Frag} {w : Wd} {F : Hp} {ad : Nat → Addr} {σ : L2.St} {H : Hp} {e : Env} (R : Rel K w F ad σ H e) (vs : List Nat) : Rel K w F ad (wipe σ vs) H (wipeE e vs) :=
  R.forget (by rw [wipe_length, wipeE_len]; exact R.len) fun j s h => wipeE_get h
theorem Rel.unwiped {K : PySem.W.Frag} {w : Wd} {F : Hp} {ad : Nat → Addr} {σ : L2.St} {H : Hp} {e : Env} {vs : List Nat} (R : Rel K w F ad (wipe σ vs) H e) : Rel K w F ad σ H e := by
  refine R.forget (by rw [← R.len, wipe_length]) fun j s h => ?_
  cases s with
  | un => exact .inl rfl
  | im d => obtain ⟨v, h1, _⟩ := R.im j d h; exact .inr ⟨h, by rw [h1]; exact (wipe_some h1).1⟩
  | mu d => obtain ⟨v, h1, _⟩ := R.mu j d h; exact .inr ⟨h, by rw [h1]; exact (wipe_some h1).1⟩
  | bo d => obtain ⟨_, v, h1, _⟩ := R.bo j d h; exact .inr ⟨h, by rw [h1]; exact (wipe_some h1).1⟩
/-- a comprehension's target: it stores in the slots vs alone -/
structure TgOk (K : PySem.W.Frag) (vs : List Nat) (g : TG) (gd : DTg) : Prop where
  run : ∀ (w : Wd) (F : Hp) (ad : Nat → Addr) (σ : L2.St) (H : Hp) (e : Env) (v : V) (d : D) (P : Env → Prop), Rel K w F ad σ H e → Dq K F v d → gd d e P → g v σ H fun σ2 H2 => H2 = H ∧ wipe σ2 vs = wipe σ vs ∧ ∃ e2, Rel K w F ad σ2 H e2 ∧ P e2
  mono : ∀ d e (Q Q' : Env → Prop), (∀ e', Q e' → Q' e') → gd d e Q → gd d e Q'
  up : ∀ v σ H (Q Q' : L2.St → Hp → Prop), (∀ σ' H', Q σ' H' → Q' σ' H') → g v σ H Q → g v σ H Q'
structure TgsOk (K : PySem.W.Frag) (vs : List Nat) (g : TGs) (gd : DTgs) : Prop where
  run : ∀ (w : Wd) (F : Hp) (ad : Nat → Addr) (σ : L2.St) (H : Hp) (e : Env) (us : List V) (ds : List D) (P : Env → Prop), Rel K w F ad σ H e → DqAll K F us ds → gd ds e P → g us σ H fun σ2 H2 => H2 = H ∧ wipe σ2 vs = wipe σ vs ∧ ∃ e2, Rel K w F ad σ2 H e2 ∧ P e2
  mono : ∀ d e (Q Q' : Env → Prop), (∀ e', Q e' → Q' e') → gd d e Q → gd d e Q'
  up : ∀ us σ H (Q Q' : L2.St → Hp → Prop), (∀ σ' H', Q σ' H' → Q' σ' H') → g us σ H Q → g us σ H Q'
theorem wipe_set {σ : L2.St} {v : Option V} : ∀ {vs : List Nat} {i : Nat}, i ∈ vs → wipe (σ.set i v) vs = wipe σ vs
  | [], i, h => by cases h
  | k :: vs, i, h => by
    show (wipe (σ.set i v) vs).set k none = (wipe σ vs).set k none
    by_cases z : i ∈ vs
    · rw [wipe_set z]
    · have hk : i = k := by
        rcases List.mem_cons.mp h with h | h
        · exact h
        · exact absurd h z
      subst hk
      have cm : ∀ (vs : List Nat), i ∉ vs → wipe (σ.set i v) vs = (wipe σ vs).set i v := by
        intro vs
        induction vs with
        | nil => intro _; rfl
        | cons k ks ih =>
          intro h
          show (wipe (σ.set i v) ks).set k none = ((wipe σ ks).set k none).set i v
          rw [ih (fun q => h (List.mem_cons_of_mem _ q)), List.set_comm _ _ (fun q => h (by rw [q]; exact List.mem_cons_self))]
      rw [cm vs z, List.set_set]
theorem wipe_sub {σ : L2.St} {ws : List Nat} : ∀ {vs : List Nat}, (∀ v ∈ vs, v ∈ ws) → wipe (wipe σ vs) ws = wipe σ ws
  | [], _ => rfl
  | v :: vs, h => by
    show wipe ((wipe σ vs).set v none) ws = _
    rw [wipe_set (h v List.mem_cons_self)]
    exact wipe_sub fun k hk => h k (List.mem_cons_of_mem _ hk)
theorem wipe_wipe {σ : L2.St} {vs : List Nat} : wipe (wipe σ vs) vs = wipe σ vs := wipe_sub fun _ h => h
theorem tg_name {K : PySem.W.Frag} {vs : List Nat} {i : Nat} (h : i ∈ vs) : TgOk K vs (gName i) (dgName i) :=
  ⟨fun w F ad σ H e v d P R p q => ⟨rfl, wipe_set h, _, R.set p, q⟩, fun d e Q Q' m q => m _ q, fun v σ H Q Q' m q => m _ _ q⟩
theorem tgs_nil {K : PySem.W.Frag} {vs : List Nat} : TgsOk K vs gNil dgNil :=
  ⟨fun w F ad σ H e us ds P R p q => by
    obtain ⟨q1, q2⟩ := q
    subst q1
    cases p
    exact ⟨rfl, rfl, rfl, e, R, q2⟩, fun d e Q Q' m q => ⟨q.1, m _ q.2⟩, fun us σ H Q Q' m q => ⟨q.1, m _ _ q.2⟩⟩
theorem tgs_cons {K : PySem.W.Frag} {vs : List Nat} {g : TG} {gd : DTg} {r : TGs} {rd : DTgs} (h1 : TgOk K vs g gd) (h2 : TgsOk K vs r rd) : TgsOk K vs (gCons g r) (dgCons gd rd) :=
  ⟨fun w F ad σ H e us ds P R p q => by
    cases p with
    | nil => exact q.elim
    | cons p1 p2 =>
      refine ⟨_, _, rfl, h1.up _ _ _ _ _ (fun σ1 H1 z => ?_) (h1.run w F ad σ H e _ _ _ R p1 q)⟩
      obtain ⟨rfl, z2, e1, R1, q1⟩ := z
      refine h2.up _ _ _ _ _ (fun σ2 H2 z => ?_) (h2.run w F ad σ1 _ e1 _ _ _ R1 p2 q1)
      obtain ⟨rfl, z3, e2, R2, q2⟩ := z
      exact ⟨rfl, z3.trans z2, e2, R2, q2⟩, fun ds e Q Q' m q => by
    cases ds with
    | nil => exact q.elim
    | cons d es => exact h1.mono _ _ _ _ (fun e1 q1 => h2.mono _ _ _ _ m q1) q, fun us σ H Q Q' m q => by
    obtain ⟨v, r, e, q⟩ := q
    exact ⟨v, r, e, h1.up _ _ _ _ _ (fun σ1 H1 q1 => h2.up _ _ _ _ _ m q1) q⟩⟩
theorem tg_tup {K : PySem.W.Frag} {vs : List Nat} {n : Nat} {r : TGs} {rd : DTgs} (h2 : TgsOk K vs r rd) : TgOk K vs (gTup K n r) (dgTup n rd) :=
  ⟨fun w F ad σ H e v d P R p q => by
    cases d with
    | tuple ds =>
      obtain ⟨a, us, rfl, t1, t2⟩ := dp_tup p
      exact ⟨a, us, rfl, sqT_mono R.sub t1, by rw [dpAll_len t2]; exact q.1, h2.run w F ad σ H e _ _ _ R t2 q.2⟩
    | _ => exact q.elim, fun d e Q Q' m q => by
    cases d with
    | tuple ds => exact ⟨q.1, h2.mono _ _ _ _ m q.2⟩
    | _ => exact q.elim, fun v σ H Q Q' m q => by
    obtain ⟨a, xs, e1, e2, e3, q⟩ := q
    exact ⟨a, xs, e1, e2, e3, h2.up _ _ _ _ _ m q⟩⟩
/-- the tests of a clause -/
structure DTs (X : Cx) (ifs : List Expr) (f : DB) : Prop where
  run : ∀ w, PTs X ifs (CL X.K w f)
  mono : ∀ e (Q Q' : Bool → Env → Prop), (∀ d e', Q d e' → Q' d e') → f e Q → f e Q'
def dYes : DB := fun e Q => Q true e
theorem PTs.imp {ifs : List Expr} {t t' : TT} (h : PTs X ifs t) (i : ∀ σ H Q, t' σ H Q → t σ H Q) : PTs X ifs t' := ⟨fun p s σ H Q I q => h.run p s σ H Q I (i σ H Q q)⟩
theorem dts_nil : DTs X [] dYes := ⟨fun w => PTs.imp pts_nil fun σ H Q ⟨F, ad, e, R, q⟩ => q F ad H (Same.refl F) R, fun e Q Q' m q => m _ _ q⟩
theorem dts_one (hc : DTe X c t) : DTs X [c] t := ⟨fun w => pts_one (hc.run w), hc.mono⟩
def dComp (wi : DI) (gd : DTg) (tt : DB) (f : DT) (vs : List Nat) : DF := fun e Q => wi e fun ds e1 => ∃ Pv : Nat → List D → Env → Prop, Pv 0 [] (wipeE e1 vs) ∧
  (∀ i d acc e2, ds[i]? = some d → Pv i acc e2 → gd d e2 fun e3 => tt e3 fun k e4 => if k = true then f e4 fun y e5 => acc.length < sizeLine ∧ Pv (i + 1) (acc ++ [y]) (wipeE e5 vs) else Pv (i + 1) acc (wipeE e4 vs)) ∧
  ∀ acc e2, Pv ds.length acc e2 → Q (.lst acc) e2
/-- what a comprehension reads, by what its block reads -/
theorem tlc_comp {K : PySem.W.Frag} {w : Wd} {own : List (Str × Nat)} {wi : DI} {gr : TG} {gd : DTg} {tt : DB} {f : DT} (hm : ∀ e (Q Q' : List D → Env → Prop), (∀ d e', Q d e' → Q' d e') → wi e Q → wi e Q')
    (tk : TgOk K (own.map (·.2)) gr gd) (mt : ∀ e (Q Q' : Bool → Env → Prop), (∀ d e', Q d e' → Q' d e') → tt e Q → tt e Q') (mf : ∀ e (Q Q' : D → Env → Prop), (∀ d e', Q d e' → Q' d e') → f e Q → f e Q') (σ : L2.St) (H : Hp) (Q : V → Hp → Prop)
    (q : FL K w (dComp wi gd tt f (own.map (·.2))) σ H Q) : tLc (IL K w wi) gr (fun σ H Q => ∃ w' : Wd, CL K w' tt σ H Q) (fun σ H Q => ∃ w' : Wd, EL K w' f σ H Q) (own.map (·.2)) σ H Q := by
  obtain ⟨F, ad, e, R, q⟩ := q
  refine ⟨F, ad, e, R, hm _ _ _ (fun ds e1 q1 F1 ad1 H1 J s1 R1 Y => ?_) q⟩
  intro Da hDa
  obtain ⟨Pv, p0, hstep, hend⟩ := q1
  obtain ⟨R0, f0⟩ := R1.layOwn (o := .lst []) hDa
  have sx : ∀ F, Same F1 F → ∀ H, Same F H → Same F1 H := fun F a H b => a.trans b
  refine ⟨fun i m H => ∃ F ad e acc xs, Same F1 F ∧ Rel K w F ad (wipe σ (own.map (·.2))) H e ∧ Pv i acc e ∧ H Da = some (.lst xs) ∧ Fresh w F ad e Da ∧ DqAll K F xs acc ∧ i + m = ds.length,
    ⟨ds.length, F1, ad1, wipeE e1 (own.map (·.2)), [], [], Same.refl F1, R0.wiped _, p0, upd_same, ⟨f0.fF, f0.f0, fun i es z => ?_, f0.fb⟩, .nil, by omega⟩, ?_⟩
  · rcases wipeE_get (σ := σ) z with z | ⟨z, _⟩
    · cases z
    · exact f0.fm i es z
  rintro i m H2 ⟨F2, ad2, e2, acc, xs, s2, R2, pi, hD, fr, pa, hmm⟩
  by_cases hlt : i < ds.length
  · refine .inr ⟨Y.go i H2 (s2.trans R2.sub) hlt, fun H' => ∃ F ad e acc xs, Same F1 F ∧ Rel K w F ad (wipe σ (own.map (·.2))) H' e ∧ Pv (i + 1) acc e ∧ H' Da = some (.lst xs) ∧ Fresh w F ad e Da ∧ DqAll K F xs acc, ?_, fun x H' hy => ?_⟩
    · rintro H' ⟨F, ad, e, acc, xs, a1, a2, a3, a4, a5, a6⟩
      exact ⟨m - 1, by omega, F, ad, e, acc, xs, a1, a2, a3, a4, a5, a6, by omega⟩
    obtain ⟨d, hd⟩ : ∃ d, ds[i]? = some d := ⟨_, List.getElem?_eq_getElem hlt⟩
    obtain ⟨F3, pd, gr'⟩ := Y.yld i H2 H' x d (s2.trans R2.sub) hy hd
    have ex : ∃ F4 : Hp, Same F2 F4 ∧ Rel K w F4 ad2 (wipe σ (own.map (·.2))) H' e2 ∧ Dq K F4 x d ∧ H' Da = some (.lst xs) ∧ Fresh w F4 ad2 e2 Da := by
      rcases gr' with ⟨h1, h2⟩ | ⟨p, o, h1, h2, h3⟩
      · subst h2
        subst h1
        exact ⟨F2, Same.refl _, R2, dp_mono s2 _ _ pd, hD, fr⟩
      · subst h2
        subst h3
        have ne : Da ≠ p := fun z => by subst z; rw [hD] at h1; cases h1
        exact ⟨upd F2 p o, same_upd R2.sub h1, R2.grow h1, dp_mono (same_upd2 s2) _ _ pd, by rw [upd_ne ne]; exact hD, ⟨by rw [upd_ne ne]; exact fr.fF, fr.f0, fr.fm, fr.fb⟩⟩
    obtain ⟨F4, s4, R4, p4, hD4, fr4⟩ := ex
    refine tk.up _ _ _ _ _ (fun σ5 H5 z => ?_) (tk.run _ F4 ad2 _ H' e2 x d _ R4.rebase p4 (hstep i d acc e2 hd pi))
    obtain ⟨rfl, zw, e5, R5, q5⟩ := z
    rw [wipe_wipe] at zw
    refine ⟨zw, _, F4, ad2, e5, R5, mt _ _ _ (fun k e6 q6 F6 ad6 H6 s6 R6 => ?_) q5⟩
    cases k with
    | true =>
      rw [if_pos rfl] at q6 ⊢
      refine ⟨_, F6, ad6, e6, R6, mf _ _ _ (fun y e7 q7 F7 ad7 H7 v7 s7 R7 p7 => ?_) q6⟩
      obtain ⟨h7, fr7⟩ := R4.keeps R7 hD4 fr4
      have B7 := R4.back R7
      refine ⟨xs, h7, by rw [dpAll_len pa]; exact q7.1, F7, ad7, wipeE e7 (own.map (·.2)), acc ++ [y], xs ++ [v7], s2.trans (s4.trans (R7.old)), ?_, q7.2, upd_same, ?_, ?_⟩
      · have B8 := (B7.write (o := .lst (xs ++ [v7])) fr7).wiped (own.map (·.2))
        rw [zw] at B8
        exact B8
      · refine ⟨fr7.fF, fr7.f0, fun j es z => ?_, fr7.fb⟩
        rcases wipeE_get (σ := σ) z with z | ⟨z, _⟩
        · cases z
        · exact fr7.fm j es z
      · exact dpAll_app (dpAll_mono (s4.trans R7.old) _ _ pa) (.cons p7 .nil)
    | false =>
      rw [if_neg Bool.false_ne_true] at q6 ⊢
      obtain ⟨h7, fr7⟩ := R4.keeps R6 hD4 fr4
      have B7 := R4.back R6
      refine ⟨F6, ad6, wipeE e6 (own.map (·.2)), acc, xs, s2.trans (s4.trans R6.old), ?_, q6, h7, ?_, dpAll_mono (s4.trans R6.old) _ _ pa⟩
      · have B8 := B7.wiped (own.map (·.2))
        rw [zw] at B8
        exact B8
      · refine ⟨fr7.fF, fr7.f0, fun j es z => ?_, fr7.fb⟩
        rcases wipeE_get (σ := σ) z with z | ⟨z, _⟩
        · cases z
        · exact fr7.fm j es z
  · have hE : i = ds.length := by omega
    subst hE
    exact .inl ⟨Y.stop _ H2 (s2.trans R2.sub) (Nat.le_refl _), hend acc e2 pi F2 ad2 H2 Da _ (s1.trans s2) R2.unwiped hD fr (.lst pa)⟩
theorem df_comp {tg iter : Expr} {ifs : List Expr} {scope : Scope} {own : List (Str × Nat)} {wi : DI} {gr : TG} {gd : DTg} {tt : DB} (hc : X.calm = true) (hN : X.N.Nodup) (hi : DIt X tg iter wi) (ok : BlkOk X.N X.env.scope scope own)
    (hg : ∀ (s : Shared) (H : Hp) (C : Addr) (cl : List (Str × Addr)) (fp : List Addr), PG (X.blk s H scope (compEnvC scope cl C X.env) fp) tg gr) (tk : TgOk X.K (own.map (·.2)) gr gd)
    (ht : ∀ (s : Shared) (H : Hp) (C : Addr) (cl : List (Str × Addr)) (fp : List Addr), DTs (X.blk s H scope (compEnvC scope cl C X.env) fp) ifs tt)
    (he : ∀ (s : Shared) (H : Hp) (C : Addr) (cl : List (Str × Addr)) (fp : List Addr), DE (X.blk s H scope (compEnvC scope cl C X.env) fp) elt f)
    (hs : ∀ z, foldedSetIterable iter X.env z = pure z := by intro _; rfl) :
    DFe X (.ListComp elt [⟨tg, iter, ifs, 0⟩] scope pos) (dComp wi gd tt f (own.map (·.2))) := by
  refine ⟨fun w => ⟨fun pins s σ H Q I q => ?_⟩, fun e Q Q' m q => ?_⟩
  · have mt := (ht s H 0 [] []).mono
    have mf := (he s H 0 [] []).mono
    have hlc : PE X (.ListComp elt [⟨tg, iter, ifs, 0⟩] scope pos) (tLc (IL X.K w wi) gr (fun σ H Q => ∃ w' : Wd, CL X.K w' tt σ H Q) (fun σ H Q => ∃ w' : Wd, EL X.K w' f σ H Q) (own.map (·.2))) :=
      pe_lc hc hN (hi.run w) ok hg (fun s H C cl fp => ⟨fun p s' σ H' Q I' ⟨w', q⟩ => ((ht s H C cl fp).run w').run p s' σ H' Q I' q⟩) (fun s H C cl fp => ⟨fun p s' σ H' Q I' ⟨w', q⟩ => ((he s H C cl fp).run w').run p s' σ H' Q I' q⟩) hs
    exact hlc.run pins s σ H Q I (tlc_comp hi.mono tk mt mf σ H Q q)
  · exact hi.mono _ _ _ (fun ds e1 ⟨Pv, p0, h1, h2⟩ => ⟨Pv, p0, h1, fun acc e2 pi => m _ _ (h2 acc e2 pi)⟩) q
/-- name = [..] on one line -/
theorem ds_setLcF (s0 : Shared) (H0 : Hp) {elt tg iter : Expr} {ifs : List Expr} {scope : Scope} {own : List (Str × Nat)} {wi : DI} {gr : TG} {gd : DTg} {tt : DB} {i : Nat} {y : Str} {py spos : Pos} (hc : X.calm = true) (hN : X.N.Nodup) (hy : X.N[i]? = some y) (hyl : X.env.scope.names.lookup y = some .local)
    (hsw : swapsWith (.ListComp elt [⟨tg, iter, ifs, 0⟩] scope pos) (some (.Name y py)) spos.line X.env = pure true) (hi : DIt X tg iter wi) (ok : BlkOk X.N X.env.scope scope own)
    (hg : ∀ (s : Shared) (H : Hp) (C : Addr) (cl : List (Str × Addr)) (fp : List Addr), PG (X.blk s H scope (compEnvC scope cl C X.env) fp) tg gr) (tk : TgOk X.K (own.map (·.2)) gr gd)
    (ht : ∀ (s : Shared) (H : Hp) (C : Addr) (cl : List (Str × Addr)) (fp : List Addr), DTs (X.blk s H scope (compEnvC scope cl C X.env) fp) ifs tt)
    (he : ∀ (s : Shared) (H : Hp) (C : Addr) (cl : List (Str × Addr)) (fp : List Addr), DE (X.blk s H scope (compEnvC scope cl C X.env) fp) elt f)
    (hs : ∀ z, foldedSetIterable iter X.env z = pure z := by intro _; rfl) : DS X (.Assign [.Name y py] (.ListComp elt [⟨tg, iter, ifs, 0⟩] scope pos) spos) (dAsgF (dComp wi gd tt f (own.map (·.2))) i) := by
  have mt := (ht s0 H0 0 [] []).mono
  have mf := (he s0 H0 0 [] []).mono
  have mc : ∀ e (Q Q' : Ow → Env → Prop), (∀ d e', Q d e' → Q' d e') → dComp wi gd tt f (own.map (·.2)) e Q → dComp wi gd tt f (own.map (·.2)) e Q' := fun e Q Q' m q => hi.mono _ _ _ (fun ds e1 ⟨Pv, p0, h1, h2⟩ => ⟨Pv, p0, h1, fun acc e2 pi => m _ _ (h2 acc e2 pi)⟩) q
  have hps : ∀ w, PS X (.Assign [.Name y py] (.ListComp elt [⟨tg, iter, ifs, 0⟩] scope pos) spos) (tAsg (tLc (IL X.K w wi) gr (fun σ H Q => ∃ w' : Wd, CL X.K w' tt σ H Q) (fun σ H Q => ∃ w' : Wd, EL X.K w' f σ H Q) (own.map (·.2))) (gName i)) := fun w => ps_setLc (spos := spos) hc hN hy hyl hsw (hi.run w) ok hg (fun s H C cl fp => ⟨fun p s' σ H' Q I' ⟨w', q⟩ => ((ht s H C cl fp).run w').run p s' σ H' Q I' q⟩) (fun s H C cl fp => ⟨fun p s' σ H' Q I' ⟨w', q⟩ => ((he s H C cl fp).run w').run p s' σ H' Q I' q⟩) hs
  refine ⟨fun w => PS.imp (hps w) ?_, fun A B e l q => mc _ _ _ (fun d e1 q1 => l.nx _ q1) q⟩
  rintro D σ H ⟨F, ad, e, R, q⟩
  exact tlc_comp hi.mono tk mt mf σ H (fun x H1 => gName i x σ H1 D.nx) ⟨F, ad, e, R, mc _ _ _ (fun d e1 q1 F1 ad1 H1 l xs s1 R1 z fr p => q1 F1 _ _ H1 (R1.setMu z fr p)) q⟩
theorem ds_setLc (s0 : Shared) (H0 : Hp) {elt tg iter : Expr} {ifs : List Expr} {scope : Scope} {own : List (Str × Nat)} {wi : DI} {gr : TG} {gd : DTg} {tt : DB} {i : Nat} {y : Str} {py spos : Pos} (hc : X.calm = true) (hN : X.N.Nodup) (hy : X.N[i]? = some y) (hyl : X.env.scope.names.lookup y = some .local)
    (hsw : swapsWith (.ListComp elt [⟨tg, iter, ifs, 0⟩] scope pos) (some (.Name y py)) spos.line X.env = pure true) (hi : DIt X tg iter wi) (ok : BlkOk X.N X.env.scope scope own)
    (hg : ∀ (s : Shared) (H : Hp) (C : Addr) (cl : List (Str × Addr)) (fp : List Addr), PG (X.blk s H scope (compEnvC scope cl C X.env) fp) tg gr) (tk : TgOk X.K (own.map (·.2)) gr gd)
    (ht : ∀ (s : Shared) (H : Hp) (C : Addr) (cl : List (Str × Addr)) (fp : List Addr), DTs (X.blk s H scope (compEnvC scope cl C X.env) fp) ifs tt)
    (he : ∀ (s : Shared) (H : Hp) (C : Addr) (cl : List (Str × Addr)) (fp : List Addr), DE (X.blk s H scope (compEnvC scope cl C X.env) fp) elt f)
    (hs : ∀ z, foldedSetIterable iter X.env z = pure z := by intro _; rfl) : DS X (.Assign [.Name y py] (.ListComp elt [⟨tg, iter, ifs, 0⟩] scope pos) spos) (dAsg (dFrz (dComp wi gd tt f (own.map (·.2)))) (dgName i)) := by
  have mt := (ht s0 H0 0 [] []).mono
  have mf := (he s0 H0 0 [] []).mono
  have mc : ∀ e (Q Q' : Ow → Env → Prop), (∀ d e', Q d e' → Q' d e') → dComp wi gd tt f (own.map (·.2)) e Q → dComp wi gd tt f (own.map (·.2)) e Q' := fun e Q Q' m q => hi.mono _ _ _ (fun ds e1 ⟨Pv, p0, h1, h2⟩ => ⟨Pv, p0, h1, fun acc e2 pi => m _ _ (h2 acc e2 pi)⟩) q
  have hps : ∀ w, PS X (.Assign [.Name y py] (.ListComp elt [⟨tg, iter, ifs, 0⟩] scope pos) spos) (tAsg (tLc (IL X.K w wi) gr (fun σ H Q => ∃ w' : Wd, CL X.K w' tt σ H Q) (fun σ H Q => ∃ w' : Wd, EL X.K w' f σ H Q) (own.map (·.2))) (gName i)) := fun w => ps_setLc (spos := spos) hc hN hy hyl hsw (hi.run w) ok hg (fun s H C cl fp => ⟨fun p s' σ H' Q I' ⟨w', q⟩ => ((ht s H C cl fp).run w').run p s' σ H' Q I' q⟩) (fun s H C cl fp => ⟨fun p s' σ H' Q I' ⟨w', q⟩ => ((he s H C cl fp).run w').run p s' σ H' Q I' q⟩) hs
  refine ⟨fun w => PS.imp (hps w) ?_, fun A B e l q => frz_mono mc _ _ _ (fun d e1 q1 => l.nx _ q1) q⟩
  rintro D σ H ⟨F, ad, e, R, q⟩
  have q : dComp wi gd tt f (own.map (·.2)) e (fun o e1 => match owD o with
    | some d => (endL X.K w D).nx (e1.set i (.im d))
    | none => False) := q
  have q2 : dComp wi gd tt f (own.map (·.2)) e (fun o e1 => ∃ ds, o = .lst ds ∧ (endL X.K w D).nx (e1.set i (.im (.list ds)))) := hi.mono _ _ _ (fun ds e1 ⟨Pv, p0, h1, h2⟩ => ⟨Pv, p0, h1, fun acc e2 pi => ⟨acc, rfl, h2 acc e2 pi⟩⟩) q
  refine tlc_comp hi.mono tk mt mf σ H (fun x H1 => gName i x σ H1 D.nx) ⟨F, ad, e, R, mc _ _ _ (fun o e1 q1 F1 ad1 H1 l xs s1 R1 z fr p => ?_) q2⟩
  obtain ⟨ds, rfl, q1⟩ := q1
  cases p with
  | lst r =>
    obtain ⟨R2, sm, dp⟩ := R1.adoptG (d := .list ds) z fr (.lst r) (fun F' h r' => by
      cases r' with
      | lst r' => exact .lst (Rd.of h) r')
    exact q1 _ ad1 _ H1 (R2.set dp)
end
end DL

/-! The D layer, part 5: what a def promises over pure data; its call; its body. -/
namespace DL
open PySem PySem.Spec PyProof.Rows L2

/-- but at a, what was not known data stands as before -/
def FrB (no : Addr → Prop) (F H F' H' : Hp) : Prop := ∀ b o, ¬ no b → H b = some o → F b = none → H' b = some o ∧ F' b = none
abbrev C0 := List D → (D → Prop) → Prop
abbrev C1 := Ow → List D → (D → Ow → Prop) → Prop
abbrev CF := List D → (Ow → Prop) → Prop
/-- data in, data out -/
def spD (K : PySem.W.Frag) (C : C0) : Sp := fun vs H Q _ => ∃ F ds, Same F H ∧ DqAll K F vs ds ∧ C ds fun d => ∀ F' H' v, Same F F' → Same F' H' → FrB (fun _ => False) F H F' H' → Dq K F' v d → Q v H'
/-- the first argument is a list that is lent, and changed -/
def spB (K : PySem.W.Frag) (C : C1) : Sp := fun vs H Q _ => ∃ F a xs cs us ds, vs = .ref a :: us ∧ Same F H ∧ H a = some xs ∧ F a = none ∧ OwR K F xs cs ∧ DqAll K F us ds ∧
  C cs ds fun d cs' => ∀ F' H' v ys, Same F F' → Same F' H' → FrB (fun b => b = a) F H F' H' → H' a = some ys → F' a = none → OwR K F' ys cs' → Dq K F' v d → Q v H'
/-- a new list out, the caller's own -/
def spF (K : PySem.W.Frag) (C : CF) : Sp := fun vs H Q _ => ∃ F ds, Same F H ∧ DqAll K F vs ds ∧ C ds fun es => ∀ F' H' a xs, Same F F' → Same F' H' → FrB (fun _ => False) F H F' H' → H a = none → H' a = some xs → F' a = none → OwR K F' xs es → Q (.ref a) H'
def Mono0 (C : C0) : Prop := ∀ ds (P P' : D → Prop), (∀ d, P d → P' d) → C ds P → C ds P'
def Mono1 (C : C1) : Prop := ∀ cs ds (P P' : D → Ow → Prop), (∀ d c, P d c → P' d c) → C cs ds P → C cs ds P'
def MonoF (C : CF) : Prop := ∀ ds (P P' : Ow → Prop), (∀ d, P d → P' d) → C ds P → C ds P'

section
variable {K : PySem.W.Frag} {w : Wd} {F F' : Hp} {ad : Nat → Addr} {σ : L2.St} {H H' : Hp} {e : Env}
theorem Rel.called {no : Addr → Prop} (R : Rel K w F ad σ H e) (sm : Same F F') (sb : Same F' H') (fr : FrB no F H F' H') (n1 : ∀ b, no b → (∃ o, H' b = some o) ∧ (w.H0 b = none ∨ w.own b)) (n2 : ∀ (j : Nat) ds, e[j]? = some (.mu ds) → ¬ no (ad j)) (n3 : ∀ (j : Nat) ds, e[j]? = some (.bo ds) → ¬ no w.ba) : Rel K w F' ad σ H' e where
  sub := sb
  old := R.old.trans sm
  dom := fun b o q => by
    obtain ⟨o', q'⟩ := R.dom b o q
    cases hF : F b with
    | some u => exact ⟨u, sb b u (sm b u hF)⟩
    | none =>
      by_cases hn : no b
      · exact (n1 b hn).1
      · exact ⟨o', (fr b o' hn q' hF).1⟩
  fr := fun b o q1 q2 q3 => by
    obtain ⟨h1, h2⟩ := R.fr b o q1 q2 q3
    refine fr b o (fun hn => ?_) h1 h2
    rcases (n1 b hn).2 with z | z
    · rw [z] at q1; cases q1
    · exact q3 z
  len := R.len
  im := fun i d q => by obtain ⟨v, a1, a2⟩ := R.im i d q; exact ⟨v, a1, dp_mono sm _ _ a2⟩
  mu := fun i ds q => by
    obtain ⟨xs, a1, a2, a3, a4, a5⟩ := R.mu i ds q
    obtain ⟨b1, b2⟩ := fr _ _ (n2 i ds q) a2 a3
    exact ⟨xs, a1, b1, b2, ow_mono sm a4, a5⟩
  bo := fun i ds q => by
    obtain ⟨a0, xs, a1, a2, a3, a4⟩ := R.bo i ds q
    obtain ⟨b1, b2⟩ := fr _ _ (n3 i ds q) a2 a3
    exact ⟨a0, xs, a1, b1, b2, ow_mono sm a4⟩
  hbo := R.hbo
  inj := R.inj
  nbo := R.nbo
  ubo := R.ubo
theorem set_un {i : Nat} {j : Nat} {s : Sl} (h : (e.set i Sl.un)[j]? = some s) : s = .un ∨ (j ≠ i ∧ e[j]? = some s) := by
  rw [List.getElem?_set] at h
  by_cases z : i = j
  · rw [if_pos z] at h
    by_cases l : i < e.length
    · rw [if_pos l] at h; exact .inl (Option.some.inj h).symm
    · rw [if_neg l] at h; cases h
  · rw [if_neg z] at h; exact .inr ⟨fun q => z q.symm, h⟩
/-- a list that was lent to a call comes back -/
theorem Rel.lent {i : Nat} {cs : Ow} (R : Rel K w F ad σ H e) (own : slOwn e[i]? = some cs) :
    ∃ a xs, σ[i]? = some (some (.ref a)) ∧ H a = some xs ∧ F a = none ∧ OwR K F xs cs ∧
      ∀ F' H' ys cs', Same F F' → Same F' H' → FrB (fun b => b = a) F H F' H' → H' a = some ys → F' a = none → OwR K F' ys cs' → ∃ s, slPut e[i]? cs' = some s ∧ Rel K w F' ad σ H' (e.set i s) := by
  have R1 : Rel K w F ad σ H (e.set i .un) := R.forget (by rw [List.length_set]; exact R.len) fun j s h => by
    rcases set_un h with h | ⟨_, h⟩
    · exact .inl h
    · exact .inr ⟨h, rfl⟩
  cases z : e[i]? with
  | none => rw [z] at own; cases own
  | some s =>
    rw [z] at own
    have hlt : i < e.length := (List.getElem?_eq_some_iff.mp z).1
    cases s with
    | un => cases own
    | im d => cases own
    | mu ds =>
      cases own
      obtain ⟨xs, h1, h2, h3, h4, h5⟩ := R.mu i _ z
      refine ⟨_, xs, h1, h2, h3, h4, fun F' H' ys cs' sm sb fr e1 e2 p => ⟨_, rfl, ?_⟩⟩
      have Q := R1.called (no := fun b => b = ad i) sm sb fr (fun b hb => by subst hb; exact ⟨⟨_, e1⟩, h5⟩)
        (fun j ds q q' => by
          rcases set_un q with q | ⟨q1, q2⟩
          · cases q
          · exact q1 (R.inj _ _ _ _ q2 z q'))
        (fun j ds q q' => by
          rcases set_un q with q | ⟨q1, q2⟩
          · cases q
          · exact R.nbo i _ z (R.bo j _ q2).1 q'.symm)
      have st : ∀ (j : Nat) (s : Sl), (e.set i (.mu cs'))[j]? = some s → (j = i ∧ s = .mu cs') ∨ (j ≠ i ∧ (e.set i Sl.un)[j]? = some s) := fun j s q => by
        rw [List.getElem?_set] at q
        by_cases zz : i = j
        · subst zz
          rw [if_pos rfl, if_pos hlt] at q
          exact .inl ⟨rfl, (Option.some.inj q).symm⟩
        · rw [if_neg zz] at q
          exact .inr ⟨fun z' => zz z'.symm, by rw [List.getElem?_set, if_neg zz]; exact q⟩
      have ne : ∀ (j : Nat) es, j ≠ i → (e.set i Sl.un)[j]? = some (.mu es) → ad j ≠ ad i := fun j es hj q q' => by
        rcases set_un q with q | ⟨_, q2⟩
        · cases q
        · exact hj (R.inj _ _ _ _ q2 z q')
      exact {
        sub := Q.sub
        old := Q.old
        dom := Q.dom
        fr := Q.fr
        len := by rw [List.length_set]; exact R.len
        im := fun j d q => by
          rcases st j _ q with ⟨_, q2⟩ | ⟨_, q2⟩
          · cases q2
          · exact Q.im j d q2
        mu := fun j es q => by
          rcases st j _ q with ⟨ej, q2⟩ | ⟨_, q2⟩
          · cases q2; rw [ej]; exact ⟨ys, h1, e1, e2, p, h5⟩
          · exact Q.mu j es q2
        bo := fun j es q => by
          rcases st j _ q with ⟨_, q2⟩ | ⟨_, q2⟩
          · cases q2
          · exact Q.bo j es q2
        hbo := Q.hbo
        inj := fun j k es es' q q' zz => by
          rcases st j _ q with ⟨ej, _⟩ | ⟨nj, q2⟩
          · rcases st k _ q' with ⟨ek, _⟩ | ⟨nk, q2'⟩
            · rw [ej, ek]
            · rw [ej] at zz; exact absurd zz.symm (ne k _ nk q2')
          · rcases st k _ q' with ⟨ek, _⟩ | ⟨nk, q2'⟩
            · rw [ek] at zz; exact absurd zz (ne j _ nj q2)
            · exact Q.inj j k _ _ q2 q2' zz
        nbo := fun j es q hb => by
          rcases st j _ q with ⟨ej, _⟩ | ⟨_, q2⟩
          · rw [ej]; exact R.nbo i _ z hb
          · exact Q.nbo j es q2 hb
        ubo := fun j k es es' q q' => by
          rcases st j _ q with ⟨_, q2⟩ | ⟨_, q2⟩
          · cases q2
          · rcases st k _ q' with ⟨_, q2'⟩ | ⟨_, q2'⟩
            · cases q2'
            · exact Q.ubo j k _ _ q2 q2' }
    | bo ds =>
      cases own
      obtain ⟨h0, xs, h1, h2, h3, h4⟩ := R.bo i _ z
      refine ⟨_, xs, h1, h2, h3, h4, fun F' H' ys cs' sm sb fr e1 e2 p => ⟨_, rfl, ?_⟩⟩
      have Q := R1.called (no := fun b => b = w.ba) sm sb fr (fun b hb => by subst hb; exact ⟨⟨_, e1⟩, .inr (R.hbo h0).1⟩)
        (fun j ds q q' => by
          rcases set_un q with q | ⟨q1, q2⟩
          · cases q
          · exact R.nbo j _ q2 h0 q')
        (fun j ds q q' => by
          rcases set_un q with q | ⟨q1, q2⟩
          · cases q
          · exact q1 (R.ubo _ _ _ _ q2 z))
      have st : ∀ (j : Nat) (s : Sl), (e.set i (.bo cs'))[j]? = some s → (j = i ∧ s = .bo cs') ∨ (j ≠ i ∧ (e.set i Sl.un)[j]? = some s) := fun j s q => by
        rw [List.getElem?_set] at q
        by_cases zz : i = j
        · subst zz
          rw [if_pos rfl, if_pos hlt] at q
          exact .inl ⟨rfl, (Option.some.inj q).symm⟩
        · rw [if_neg zz] at q
          exact .inr ⟨fun z' => zz z'.symm, by rw [List.getElem?_set, if_neg zz]; exact q⟩
      have nob : ∀ (j : Nat) es, j ≠ i → (e.set i Sl.un)[j]? = some (.bo es) → False := fun j es hj q => by
        rcases set_un q with q | ⟨_, q2⟩
        · cases q
        · exact hj (R.ubo _ _ _ _ q2 z)
      exact {
        sub := Q.sub
        old := Q.old
        dom := Q.dom
        fr := Q.fr
        len := by rw [List.length_set]; exact R.len
        im := fun j d q => by
          rcases st j _ q with ⟨_, q2⟩ | ⟨_, q2⟩
          · cases q2
          · exact Q.im j d q2
        mu := fun j es q => by
          rcases st j _ q with ⟨_, q2⟩ | ⟨_, q2⟩
          · cases q2
          · exact Q.mu j es q2
        bo := fun j es q => by
          rcases st j _ q with ⟨ej, q2⟩ | ⟨nj, q2⟩
          · cases q2; rw [ej]; exact ⟨h0, ys, h1, e1, e2, p⟩
          · exact (nob j _ nj q2).elim
        hbo := Q.hbo
        inj := fun j k es es' q q' => by
          rcases st j _ q with ⟨_, q2⟩ | ⟨_, q2⟩
          · cases q2
          · rcases st k _ q' with ⟨_, q2'⟩ | ⟨_, q2'⟩
            · cases q2'
            · exact Q.inj j k _ _ q2 q2'
        nbo := fun j es q hb => by
          rcases st j _ q with ⟨_, q2⟩ | ⟨_, q2⟩
          · cases q2
          · exact Q.nbo j es q2 hb
        ubo := fun j k es es' q q' => by
          rcases st j _ q with ⟨ej, _⟩ | ⟨nj, q2⟩
          · rcases st k _ q' with ⟨ek, _⟩ | ⟨nk, q2'⟩
            · rw [ej, ek]
            · exact (nob k _ nk q2').elim
          · exact (nob j _ nj q2).elim }
end

/-! ### calls -/
section
variable {X : Cx} {x : Expr} {es : List Expr} {r : DA}
def dCall (C : C0) (r : DA) : DT := fun e Q => r e fun ds e1 => C ds fun d => Q d e1
theorem de_call {C : C0} (hC : Mono0 C) (hr : DAr X es r) (hp : ∀ ta, PA X es ta → PE X x (tCall (spD X.K C) [] E0 ta)) : DE X x (dCall C r) := by
  refine ⟨fun w => PE.imp (hp _ (hr.run w)) ?_, fun e Q Q' m q => hr.mono _ _ _ (fun ds e1 q1 => hC _ _ _ (fun d q2 => m _ _ q2) q1) q⟩
  rintro σ H Q ⟨F, ad, e, R, q⟩
  refine ⟨F, ad, e, R, hr.mono _ _ _ (fun ds e1 q1 F1 ad1 H1 vs s1 R1 p1 => ?_) q⟩
  refine ⟨F1, ds, R1.sub, by rw [List.append_nil]; exact p1, hC _ _ _ (fun d q2 F2 H2 v sm sb fr p => ?_) q1⟩
  exact q2 F2 ad1 H2 v (s1.trans sm) (R1.called sm sb fr (fun b hb => hb.elim) (fun _ _ _ hb => hb) (fun _ _ _ hb => hb)) p
def dFCall (C : CF) (r : DA) : DF := fun e Q => r e fun ds e1 => C ds fun es => Q es e1
theorem df_call {C : CF} (hC : MonoF C) (hr : DAr X es r) (hp : ∀ ta, PA X es ta → PE X x (tCall (spF X.K C) [] E0 ta)) : DFe X x (dFCall C r) := by
  refine ⟨fun w => PE.imp (hp _ (hr.run w)) ?_, fun e Q Q' m q => hr.mono _ _ _ (fun ds e1 q1 => hC _ _ _ (fun d q2 => m _ _ q2) q1) q⟩
  rintro σ H Q ⟨F, ad, e, R, q⟩
  refine ⟨F, ad, e, R, hr.mono _ _ _ (fun ds e1 q1 F1 ad1 H1 vs s1 R1 p1 => ?_) q⟩
  refine ⟨F1, ds, R1.sub, by rw [List.append_nil]; exact p1, hC _ _ _ (fun es q2 F2 H2 a xs sm sb fr ha hl hf p => ?_) q1⟩
  refine q2 F2 ad1 H2 a xs (s1.trans sm) (R1.called sm sb fr (fun b hb => hb.elim) (fun _ _ _ hb => hb) (fun _ _ _ hb => hb)) hl ⟨hf, ?_, fun j ds z z' => ?_, fun hb z => ?_⟩ p
  · cases z : w.H0 a with
    | none => rfl
    | some o => obtain ⟨o', h'⟩ := R1.dom a o z; rw [ha] at h'; cases h'
  · obtain ⟨_, _, h2, _⟩ := R1.mu j ds z
    rw [z', ha] at h2; cases h2
  · obtain ⟨_, o, h'⟩ := R1.hbo hb
    obtain ⟨o', h2⟩ := R1.dom _ o h'
    rw [← z, ha] at h2; cases h2
/-- f(x, ..): x a name, its list is lent -/
def dCallL (i : Nat) (C : C1) (r : DA) : DT := fun e Q => (∃ cs, slOwn e[i]? = some cs) ∧ r e fun ds e1 => match slOwn e1[i]? with
  | some cs => C cs ds fun d cs' => ∀ s, slPut e1[i]? cs' = some s → Q d (e1.set i s)
  | none => False
theorem de_callL {i : Nat} {C : C1} (hC : Mono1 C) (hr : DAr X es r) (hp : ∀ ta, PA X es ta → PE X x (tCall (spB X.K C) [] E0 (tCons (tVar i) ta))) : DE X x (dCallL i C r) := by
  refine ⟨fun w => PE.imp (hp _ (hr.run w)) ?_, fun e Q Q' m q => ⟨q.1, hr.mono _ _ _ (fun ds e1 q1 => ?_) q.2⟩⟩
  · rintro σ H Q ⟨F, ad, e, R, ⟨cs0, q0⟩, q⟩
    obtain ⟨a0, xs0, h0, _⟩ := R.lent q0
    refine ⟨_, h0, F, ad, e, R, hr.mono _ _ _ (fun ds e1 q1 F1 ad1 H1 vs s1 R1 p1 => ?_) q⟩
    cases z : slOwn e1[i]? with
    | none => rw [z] at q1; exact q1.elim
    | some cs =>
      rw [z] at q1
      obtain ⟨a, xs, g1, g2, g3, g4, back⟩ := R1.lent z
      rw [h0] at g1
      cases g1
      refine ⟨F1, a0, xs, cs, vs, ds, by rw [List.append_nil], R1.sub, g2, g3, g4, p1, hC _ _ _ _ (fun d cs' q2 F2 H2 v ys sm sb fr hl hf py p => ?_) q1⟩
      obtain ⟨s, hs, R2⟩ := back F2 H2 ys cs' sm sb fr hl hf py
      exact q2 s hs F2 ad1 H2 v (s1.trans sm) R2 p
  · cases z : slOwn e1[i]? with
    | none => rw [z] at q1; exact q1.elim
    | some cs => rw [z] at q1; exact hC _ _ _ _ (fun d cs' q2 s hs => m _ _ (q2 s hs)) q1
end

/-! ### defs -/
abbrev MonoS (t : DSt) : Prop := ∀ (A B : DEnds) e, A.le B → t A e → t B e
def startE (N : List Str) (ds : List D) : Env := ds.map Sl.im ++ List.replicate (N.length - ds.length) Sl.un
def startB (N : List Str) (cs : Ow) (ds : List D) : Env := Sl.bo cs :: ds.map Sl.im ++ List.replicate (N.length - (ds.length + 1)) Sl.un
theorem un_tail {n j : Nat} {s : Sl} (h : (List.replicate n Sl.un)[j]? = some s) : s = .un := by
  rw [List.getElem?_replicate] at h
  by_cases l : j < n
  · rw [if_pos l] at h; exact (Option.some.inj h).symm
  · rw [if_neg l] at h; cases h
theorem start_at {N : List Str} {ds : List D} {j : Nat} {s : Sl} (h : (startE N ds)[j]? = some s) : s = .un ∨ ∃ d, ds[j]? = some d ∧ s = .im d := by
  unfold startE at h
  by_cases l : j < ds.length
  · rw [List.getElem?_append_left (by rw [List.length_map]; exact l), List.getElem?_map] at h
    rw [List.getElem?_eq_getElem l] at h ⊢
    exact .inr ⟨_, rfl, (Option.some.inj h).symm⟩
  · rw [List.getElem?_append_right (by rw [List.length_map]; omega)] at h
    exact .inl (un_tail h)
theorem rel_start {K : PySem.W.Frag} {F H : Hp} {N : List Str} {vs : List V} {ds : List D} (s : Same F H) (p : DqAll K F vs ds) (l : vs.length ≤ N.length) :
    Rel K ⟨F, H, fun _ => False, 0, False⟩ F (fun _ => 0) (L2.start N vs) H (startE N ds) where
  sub := s
  old := Same.refl F
  dom := fun b o q => ⟨o, q⟩
  fr := fun b o q1 q2 _ => ⟨q1, q2⟩
  len := by
    have := dpAll_len p
    unfold L2.start startE
    rw [List.length_append, List.length_append, List.length_map, List.length_map, List.length_replicate, List.length_replicate]
    omega
  im := fun j d q => by
    rcases start_at q with z | ⟨d', z1, z2⟩
    · cases z
    · cases z2
      obtain ⟨v, h1, h2⟩ := dpAll_got p z1
      refine ⟨v, ?_, h2⟩
      unfold L2.start
      have lj : j < vs.length := (List.getElem?_eq_some_iff.mp h1).1
      rw [List.getElem?_append_left (by rw [List.length_map]; exact lj), List.getElem?_map, h1]
      rfl
  mu := fun j d q => by
    rcases start_at q with z | ⟨d', z1, z2⟩
    · cases z
    · cases z2
  bo := fun j d q => by
    rcases start_at q with z | ⟨d', z1, z2⟩
    · cases z
    · cases z2
  hbo := fun h => h.elim
  inj := fun j k d d' q => by
    rcases start_at q with z | ⟨d', z1, z2⟩
    · cases z
    · cases z2
  nbo := fun j d q h => h.elim
  ubo := fun j k d d' q => by
    rcases start_at q with z | ⟨d', z1, z2⟩
    · cases z
    · cases z2
theorem startB_at {N : List Str} {cs : Ow} {ds : List D} {j : Nat} {s : Sl} (h : (startB N cs ds)[j]? = some s) : s = .un ∨ (j = 0 ∧ s = .bo cs) ∨ ∃ k d, j = k + 1 ∧ ds[k]? = some d ∧ s = .im d := by
  cases j with
  | zero => exact .inr (.inl ⟨rfl, (Option.some.inj h).symm⟩)
  | succ k =>
    have h' : (ds.map Sl.im ++ List.replicate (N.length - (ds.length + 1)) Sl.un)[k]? = some s := h
    by_cases l : k < ds.length
    · rw [List.getElem?_append_left (by rw [List.length_map]; exact l), List.getElem?_map] at h'
      rw [List.getElem?_eq_getElem l] at h'
      exact .inr (.inr ⟨k, _, rfl, List.getElem?_eq_getElem l, (Option.some.inj h').symm⟩)
    · rw [List.getElem?_append_right (by rw [List.length_map]; omega)] at h'
      exact .inl (un_tail h')
theorem relB_start {K : PySem.W.Frag} {F H : Hp} {N : List Str} {a : Addr} {xs : HO} {cs : Ow} {vs : List V} {ds : List D} (s : Same F H) (hH : H a = some xs) (hF : F a = none) (pc : OwR K F xs cs) (p : DqAll K F vs ds) (l : vs.length + 1 ≤ N.length) :
    Rel K ⟨F, H, fun b => b = a, a, True⟩ F (fun _ => 0) (L2.start N (.ref a :: vs)) H (startB N cs ds) where
  sub := s
  old := Same.refl F
  dom := fun b o q => ⟨o, q⟩
  fr := fun b o q1 q2 _ => ⟨q1, q2⟩
  len := by
    have := dpAll_len p
    unfold L2.start startB
    simp only [List.length_append, List.length_map, List.length_cons, List.length_replicate]
    omega
  im := fun j d q => by
    rcases startB_at q with z | ⟨_, z⟩ | ⟨k, d', z0, z1, z2⟩
    · cases z
    · cases z
    · cases z2
      subst z0
      obtain ⟨v, h1, h2⟩ := dpAll_got p z1
      refine ⟨v, ?_, h2⟩
      have lj : k < vs.length := (List.getElem?_eq_some_iff.mp h1).1
      show (vs.map some ++ List.replicate (N.length - (V.ref a :: vs).length) none)[k]? = _
      rw [List.getElem?_append_left (by rw [List.length_map]; exact lj), List.getElem?_map, h1]
      rfl
  mu := fun j d q => by
    rcases startB_at q with z | ⟨_, z⟩ | ⟨k, d', z0, z1, z2⟩
    · cases z
    · cases z
    · cases z2
  bo := fun j d q => by
    rcases startB_at q with z | ⟨z0, z⟩ | ⟨k, d', z0, z1, z2⟩
    · cases z
    · cases z; subst z0; exact ⟨trivial, xs, rfl, hH, hF, pc⟩
    · cases z2
  hbo := fun _ => ⟨rfl, _, hH⟩
  inj := fun j k d d' q => by
    rcases startB_at q with z | ⟨_, z⟩ | ⟨k, d', z0, z1, z2⟩
    · cases z
    · cases z
    · cases z2
  nbo := fun j d q => by
    rcases startB_at q with z | ⟨_, z⟩ | ⟨k, d', z0, z1, z2⟩
    · cases z
    · cases z
    · cases z2
  ubo := fun j k d d' q q' => by
    rcases startB_at q with z | ⟨z0, _⟩ | ⟨k, d', z0, z1, z2⟩
    · cases z
    · rcases startB_at q' with z | ⟨z0', _⟩ | ⟨k, d', z0, z1, z2⟩
      · cases z
      · rw [z0, z0']
      · cases z2
    · cases z2
section
variable {P : Program} {w : World} {K : PySem.W.Frag} {mg : Str → Option Value} {base : Heap} {x qual : Str} {st : Stmt} {f : Addr} {fd : FuncData} {N ps : List Str} {k : Nat}
abbrev bodyCx (P : Program) (w : World) (K : PySem.W.Frag) (mg : Str → Option Value) (base : Heap) (N : List Str) (qual : Str) (st : Stmt) (f : Addr) (cdv : Value) (A : Around) (outer : List PySem.Env) (s : Shared) (H : Hp) (E : XK) : Cx :=
  (cxOf CX0 P w K mg base N qual (defScope st) f cdv A outer s H E).nox
abbrev bodyRoom (k : Nat) (qual : Str) (st : Stmt) (f : Addr) (cdv : Value) (A : Around) (s : Shared) : Prop := Room k (A.deeper (envOfC qual (defScope st) s.heap.objs.size f cdv))
theorem ps_le (S : FnScope N ps (defScope st)) : ps.length ≤ N.length := by
  have := S.pre
  rw [← this, List.length_take]
  omega
theorem ok_D (F : Fun K x qual st f fd) (S : FnScope N ps (defScope st)) (C : C0) (t : DSt) (len : ∀ ds P, C ds P → ds.length = ps.length)
    (body : ∀ cdv A outer s H E, bodyRoom k qual st f cdv A s → DSs (bodyCx P w K mg base N qual st f cdv A outer s H E) (defBody st) t)
    (read : MonoS t → ∀ ds P, C ds P → t { nx := fun _ => P .none, rt := fun d _ => P d } (startE N ds)) : FnOk P w K mg base CX0 (k + 1) f fd ps (spD K C) := by
  refine F.ok S (fun vs H Q E h => ?_) (fun cdv A outer s H vs Q E hr h => ?_)
  · obtain ⟨G, ds, _, p, c⟩ := h
    rw [dpAll_len p]
    exact len _ _ c
  · obtain ⟨G, ds, sm, p, c⟩ := h
    have B := body cdv A outer s H E hr
    refine ⟨SL K ⟨G, H, fun _ => False, 0, False⟩ t, B.run _, G, fun _ => 0, startE N ds, rel_start sm p ?_, B.mono _ _ _ ⟨?_, ?_, ?_, ?_, ?_⟩ (read B.mono ds _ c)⟩
    · rw [dpAll_len p, len _ _ c]; exact ps_le S
    · intro e q F' ad' σ' H' R'
      exact q F' H' _ R'.old R'.sub (fun b o _ h1 h2 => R'.fr b o h1 h2 (fun z => z)) .non
    · intro d e q F' ad' σ' H' v R' pv
      exact q F' H' v R'.old R'.sub (fun b o _ h1 h2 => R'.fr b o h1 h2 (fun z => z)) pv
    · intro _ _ q; exact q.elim
    · intro _ q; exact q.elim
    · intro _ q; exact q.elim
theorem ok_F (F : Fun K x qual st f fd) (S : FnScope N ps (defScope st)) (C : CF) (t : DSt) (len : ∀ ds P, C ds P → ds.length = ps.length)
    (body : ∀ cdv A outer s H E, bodyRoom k qual st f cdv A s → DSs (bodyCx P w K mg base N qual st f cdv A outer s H E) (defBody st) t)
    (read : MonoS t → ∀ ds P, C ds P → t { nx := fun _ => False, rt := fun _ _ => False, rf := fun es _ => P es } (startE N ds)) : FnOk P w K mg base CX0 (k + 1) f fd ps (spF K C) := by
  refine F.ok S (fun vs H Q E h => ?_) (fun cdv A outer s H vs Q E hr h => ?_)
  · obtain ⟨G, ds, _, p, c⟩ := h
    rw [dpAll_len p]
    exact len _ _ c
  · obtain ⟨G, ds, sm, p, c⟩ := h
    have B := body cdv A outer s H E hr
    refine ⟨SL K ⟨G, H, fun _ => False, 0, False⟩ t, B.run _, G, fun _ => 0, startE N ds, rel_start sm p ?_, B.mono _ _ _ ⟨?_, ?_, ?_, ?_, ?_⟩ (read B.mono ds _ c)⟩
    · rw [dpAll_len p, len _ _ c]; exact ps_le S
    · intro _ q; exact q.elim
    · intro _ _ q; exact q.elim
    · intro es e q F' ad' σ' H' a xs R' hl fr pv
      exact q F' H' a xs R'.old R'.sub (fun b o _ h1 h2 => R'.fr b o h1 h2 (fun z => z)) fr.f0 hl fr.fF pv
    · intro _ q; exact q.elim
    · intro _ q; exact q.elim
/-- what a body that was lent a list ends with -/
def lentEnd (P : D → Ow → Prop) (d : D) (e : Env) : Prop := match e[(0 : Nat)]? with
  | some (.bo cs) => P d cs
  | _ => False
theorem lent_out {P : D → Ow → Prop} {d : D} {e : Env} (h : lentEnd P d e) : ∃ cs, e[(0 : Nat)]? = some (.bo cs) ∧ P d cs := by
  unfold lentEnd at h
  split at h
  · exact ⟨_, by assumption, h⟩
  · exact h.elim
theorem ok_B (F : Fun K x qual st f fd) (S : FnScope N ps (defScope st)) (C : C1) (t : DSt) (len : ∀ cs ds P, C cs ds P → ds.length + 1 = ps.length)
    (body : ∀ cdv A outer s H E, bodyRoom k qual st f cdv A s → DSs (bodyCx P w K mg base N qual st f cdv A outer s H E) (defBody st) t)
    (read : MonoS t → ∀ cs ds P, C cs ds P → t { nx := fun e => lentEnd P .none e, rt := lentEnd P } (startB N cs ds)) : FnOk P w K mg base CX0 (k + 1) f fd ps (spB K C) := by
  refine F.ok S (fun vs H Q E h => ?_) (fun cdv A outer s H vs Q E hr h => ?_)
  · obtain ⟨G, a, xs, cs, us, ds, rfl, _, _, _, _, p, c⟩ := h
    rw [List.length_cons, dpAll_len p]
    exact len _ _ _ c
  · obtain ⟨G, a, xs, cs, us, ds, rfl, sm, hH, hF, pc, p, c⟩ := h
    have B := body cdv A outer s H E hr
    refine ⟨SL K ⟨G, H, fun b => b = a, a, True⟩ t, B.run _, G, fun _ => 0, startB N cs ds, relB_start sm hH hF pc p ?_, B.mono _ _ _ ⟨?_, ?_, ?_, ?_, ?_⟩ (read B.mono cs ds _ c)⟩
    · rw [dpAll_len p, len _ _ _ c]; exact ps_le S
    · intro e q0 F' ad' σ' H' R'
      dsimp only at q0
      obtain ⟨cs', z, q⟩ := lent_out q0
      obtain ⟨_, ys, _, h2, h3, h4⟩ := R'.bo 0 _ z
      exact q F' H' _ ys R'.old R'.sub (fun b o hb h1 h2 => R'.fr b o h1 h2 hb) h2 h3 h4 .non
    · intro d e q0 F' ad' σ' H' v R' pv
      dsimp only at q0
      obtain ⟨cs', z, q⟩ := lent_out q0
      obtain ⟨_, ys, _, h2, h3, h4⟩ := R'.bo 0 _ z
      exact q F' H' v ys R'.old R'.sub (fun b o hb h1 h2 => R'.fr b o h1 h2 hb) h2 h3 h4 pv
    · intro _ _ q; exact q.elim
    · intro _ q; exact q.elim
    · intro _ q; exact q.elim
end
end DL

/-! The D layer, part 6: short words for derivations. -/
namespace DL
open PySem PySem.Spec PyProof.Rows L2

/-- a def of the text that stands where its name says -/
structure DefAt (K : PySem.W.Frag) (mg : Str → Option Value) (x : Str) (st : Stmt) (ps : List Str) : Prop where
  ex : ∃ f fd, Fun K x x st f fd ∧ mg x = some (.ref f) ∧ Binds K fd ps []
/-- a def that keeps a promise, called by its name -/
structure Cal (P : Program) (w : World) (K : PySem.W.Frag) (mg : Str → Option Value) (base : Heap) (k : Nat) (x : Str) (sp : Sp) : Prop where
  ex : ∃ f fd ps, mg x = some (.ref f) ∧ PySem.W.keepIn K (.ref f) = true ∧ Binds K fd ps [] ∧ FnOk P w K mg base CX0 k f fd ps sp
section
variable {P : Program} {w : World} {K : PySem.W.Frag} {mg : Str → Option Value} {base : Heap} {x : Str} {st : Stmt} {N ps : List Str} {k : Nat}
theorem cal_D (A : DefAt K mg x st ps) (S : FnScope N ps (defScope st)) (C : C0) (t : DSt) (len : ∀ ds P, C ds P → ds.length = ps.length)
    (body : ∀ f cdv A outer s H E, bodyRoom k x st f cdv A s → DSs (bodyCx P w K mg base N x st f cdv A outer s H E) (defBody st) t)
    (read : MonoS t → ∀ ds P, C ds P → t { nx := fun _ => P .none, rt := fun d _ => P d } (startE N ds)) : Cal P w K mg base (k + 1) x (spD K C) := by
  obtain ⟨f, fd, F, m, b⟩ := A.ex
  exact ⟨f, fd, ps, m, F.kp, b, ok_D F S C t len (body f) read⟩
theorem cal_F (A : DefAt K mg x st ps) (S : FnScope N ps (defScope st)) (C : CF) (t : DSt) (len : ∀ ds P, C ds P → ds.length = ps.length)
    (body : ∀ f cdv A outer s H E, bodyRoom k x st f cdv A s → DSs (bodyCx P w K mg base N x st f cdv A outer s H E) (defBody st) t)
    (read : MonoS t → ∀ ds P, C ds P → t { nx := fun _ => False, rt := fun _ _ => False, rf := fun es _ => P es } (startE N ds)) : Cal P w K mg base (k + 1) x (spF K C) := by
  obtain ⟨f, fd, F, m, b⟩ := A.ex
  exact ⟨f, fd, ps, m, F.kp, b, ok_F F S C t len (body f) read⟩
theorem cal_B (A : DefAt K mg x st ps) (S : FnScope N ps (defScope st)) (C : C1) (t : DSt) (len : ∀ cs ds P, C cs ds P → ds.length + 1 = ps.length)
    (body : ∀ f cdv A outer s H E, bodyRoom k x st f cdv A s → DSs (bodyCx P w K mg base N x st f cdv A outer s H E) (defBody st) t)
    (read : MonoS t → ∀ cs ds P, C cs ds P → t { nx := fun e => lentEnd P .none e, rt := lentEnd P } (startB N cs ds)) : Cal P w K mg base (k + 1) x (spB K C) := by
  obtain ⟨f, fd, F, m, b⟩ := A.ex
  exact ⟨f, fd, ps, m, F.kp, b, ok_B F S C t len (body f) read⟩
end
section
variable {X : Cx} {x : Str} {k : Nat} {e : Expr} {es : List Expr} {r : DA} {p pos : Pos}
/-- f(..) -/
theorem calD {C : C0} (h : Cal X.prog X.w X.K X.mg X.base k x (spD X.K C)) (hr : Room k X.A) (hC : Mono0 C) (ha : DAr X (e :: es) r) (hg : Gl X x := by rfl) (hdb : (x == ("__debug__" : Str)) = false := by decide)
    (he : starEach (e :: es) X.env = (false, eval e X.env) :: starEach es X.env := by rfl) (hpl : (backTo pos (starEach es X.env)).any (·.1) = false := by rfl) : DE X (.Call (.Name x p) (e :: es) [] pos) (dCall C r) := by
  obtain ⟨f, fd, ps, m, kp, b, F⟩ := h.ex
  exact de_call hC ha fun ta h => pe_call F hr hg m kp b .nil pass0 h hdb he hpl
theorem calD0 {C : C0} (h : Cal X.prog X.w X.K X.mg X.base k x (spD X.K C)) (hr : Room k X.A) (hC : Mono0 C) (hg : Gl X x := by rfl) (hdb : (x == ("__debug__" : Str)) = false := by decide) : DE X (.Call (.Name x p) [] [] pos) (dCall C dNil) := by
  obtain ⟨f, fd, ps, m, kp, b, F⟩ := h.ex
  refine ⟨fun w => PE.imp (pe_call0 F hr hg m kp b .nil pass0 hdb) ?_, fun e Q Q' m q => hC _ _ _ (fun d q2 => m _ _ q2) q⟩
  rintro σ H Q ⟨G, ad, e, R, q⟩
  exact ⟨G, [], R.sub, .nil, hC _ _ _ (fun d q2 F2 H2 v sm sb fr p => q2 F2 ad H2 v sm (R.called sm sb fr (fun b hb => hb.elim) (fun _ _ _ hb => hb) (fun _ _ _ hb => hb)) p) q⟩
/-- f(..) that gives a list of the caller's own -/
theorem calF {C : CF} (h : Cal X.prog X.w X.K X.mg X.base k x (spF X.K C)) (hr : Room k X.A) (hC : MonoF C) (ha : DAr X (e :: es) r) (hg : Gl X x := by rfl) (hdb : (x == ("__debug__" : Str)) = false := by decide)
    (he : starEach (e :: es) X.env = (false, eval e X.env) :: starEach es X.env := by rfl) (hpl : (backTo pos (starEach es X.env)).any (·.1) = false := by rfl) : DFe X (.Call (.Name x p) (e :: es) [] pos) (dFCall C r) := by
  obtain ⟨f, fd, ps, m, kp, b, F⟩ := h.ex
  exact df_call hC ha fun ta h => pe_call F hr hg m kp b .nil pass0 h hdb he hpl
/-- f(x, ..), x's list lent -/
theorem calL {C : C1} (i : Nat) (h : Cal X.prog X.w X.K X.mg X.base k x (spB X.K C)) (hr : Room k X.A) (hC : Mono1 C) (hv : PE X e (tVar i)) (ha : DAr X es r) (hg : Gl X x := by rfl) (hdb : (x == ("__debug__" : Str)) = false := by decide)
    (he : starEach (e :: es) X.env = (false, eval e X.env) :: starEach es X.env := by rfl) (hpl : (backTo pos (starEach es X.env)).any (·.1) = false := by rfl) : DE X (.Call (.Name x p) (e :: es) [] pos) (dCallL i C r) := by
  obtain ⟨f, fd, ps, m, kp, b, F⟩ := h.ex
  exact de_callL hC ha fun ta h => pe_call F hr hg m kp b .nil pass0 (pa_cons hv h he) hdb he hpl
end

/-! ### promises by plain functions -/
/-- the arguments are args a, a as told by pre; the answer is res a -/
def fnC {α : Type} (pre : α → Prop) (args : α → List D) (res : α → D) : C0 := fun ds P => ∃ a, ds = args a ∧ pre a ∧ P (res a)
theorem fnC_mono {α : Type} {pre : α → Prop} {args : α → List D} {res : α → D} : Mono0 (fnC pre args res) := fun ds P P' m ⟨a, h1, h2, h3⟩ => ⟨a, h1, h2, m _ h3⟩
/-- .. with a lent list, told by cs, that ends as told by res -/
def fnL {α : Type} (pre : α → Prop) (cs : α → Ow) (args : α → List D) (res : α → D) (cs' : α → Ow) : C1 := fun c ds P => ∃ a, c = cs a ∧ ds = args a ∧ pre a ∧ P (res a) (cs' a)
theorem fnL_mono {α : Type} {pre : α → Prop} {cs : α → Ow} {args : α → List D} {res : α → D} {cs' : α → Ow} : Mono1 (fnL pre cs args res cs') := fun c ds P P' m ⟨a, h1, h2, h3, h4⟩ => ⟨a, h1, h2, h3, m _ _ h4⟩
def fnF {α : Type} (pre : α → Prop) (args : α → List D) (res : α → Ow) : CF := fun ds P => ∃ a, ds = args a ∧ pre a ∧ P (res a)
theorem fnF_mono {α : Type} {pre : α → Prop} {args : α → List D} {res : α → Ow} : MonoF (fnF pre args res) := fun ds P P' m ⟨a, h1, h2, h3⟩ => ⟨a, h1, h2, m _ h3⟩

/-! ### isinstance of a built-in class -/
def tyName : D → String
  | .none => "NoneType"
  | .bool _ => "bool"
  | .int _ => "int"
  | .str _ => "str"
  | .list _ => "list"
  | .tuple _ => "tuple"
  | .dict [(.none, .list _)] => "list"
  | .dict _ => "dict"
section
variable {X : Cx} {x a b : Expr} {f : DT}
theorem tyName_dct {K : PySem.W.Frag} {F : Hp} {kvs : List (Key × V)} {ds : List (D × D)} (p : DqKv K F kvs ds) : tyName (.dict ds) = "dict" := by
  cases p with
  | nil => rfl
  | @cons k v kd d vs cs h0 _ _ => subst h0; cases k <;> rfl
theorem tyX_of {K : PySem.W.Frag} {F H : Hp} {v : V} {d : D} (s : Same F H) (p : Dq K F v d) : TyX K H v (.type (tyName d)) := by
  cases p with
  | non => exact .base .non
  | bl b => exact .base (.bl b)
  | int i => exact .base (.int i)
  | str z => exact .base (.str z)
  | lst h _ =>
    rcases rd_mono s h with h | ⟨o, h⟩
    · exact .base (.lst h)
    · exact .base (.frz h)
  | tup h _ =>
    rcases sqT_mono s h with (h | ⟨o, h⟩) | ⟨o, its, n, h1, h2, _⟩
    · exact .base (.tup h)
    · exact .fTuple h
    · exact .kTuple h1 h2
  | scr h _ =>
    rcases s.seq h with (h | ⟨o, h⟩) | ⟨o, its, n, h1, h2, _⟩
    · exact .base (.lst h)
    · exact .base (.frz h)
    · exact .kList h1 h2
  | dct h k =>
    rw [tyName_dct k]
    exact .fDict (s _ _ h)
def dIsi (T : String) (f : DT) : DT := fun e Q => f e fun d e1 => match kitB (tyName d) T with
  | some k => Q (.bool k) e1
  | none => False
theorem de_isi {T : String} (ha : DE X a f) (hb : PE X b (tC (.ty T))) (hp : ∀ ta, PA X [a, b] ta → PE X x (tCB (rIsi X.K) ta)) (h1 : starEach (a :: [b]) X.env = (false, eval a X.env) :: starEach [b] X.env := by rfl) (h2 : starEach (b :: []) X.env = (false, eval b X.env) :: starEach [] X.env := by rfl) : DE X x (dIsi T f) := by
  refine ⟨fun w => PE.imp (hp _ (pa_cons (ha.run w) (pa_cons hb pa_nil h2) h1)) ?_, fun e Q Q' m q => ha.mono _ _ _ (fun d e1 q1 => ?_) q⟩
  · rintro σ H Q ⟨F, ad, e, R, q⟩
    refine ⟨F, ad, e, R, ha.mono _ _ _ (fun d e1 q1 F1 ad1 H1 v s1 R1 p1 => ?_) q⟩
    cases z : kitB (tyName d) T with
    | none => rw [z] at q1; exact q1.elim
    | some k =>
      rw [z] at q1
      exact ⟨v, _, _, _, k, rfl, .ty T, tyX_of R1.sub p1, kit_ty z, q1 F1 ad1 H1 _ s1 R1 (.bl k)⟩
  · cases z : kitB (tyName d) T with
    | none => rw [z] at q1; exact q1.elim
    | some k => rw [z] at q1; exact m _ _ q1
end
end DL
namespace DL
open PySem PySem.Spec PyProof.Rows L2
section
variable {X : Cx} {x : Str} {e : Expr} {es : List Expr} {r : DA} {p pos : Pos} {id : String} {g : G1} {rr : List V → Hp → VK → Prop}
/-- a built-in function by its name -/
theorem calBi (hc : CallR X (.builtin id) rr) (hg : OpA X.K rr g) (hm : X.mg x = none) (ha : DAr X (e :: es) r) (hl : Gl X x := by rfl) (hv : bootBuiltins x = some (.builtin id) := by decide +kernel) (hn : x ≠ "__name__" := by decide) (hdb : (x == ("__debug__" : Str)) = false := by decide)
    (he : starEach (e :: es) X.env = (false, eval e X.env) :: starEach es X.env := by rfl) (hpl : (backTo pos (starEach es X.env)).any (·.1) = false := by rfl) : DE X (.Call (.Name x p) (e :: es) [] pos) (dCallB g r) :=
  de_of_tCB hg ha fun w => pe_callB hc hl hm hv (ha.run w) hn hdb he hpl
/-- a built-in class by its name -/
theorem calTy (hc : CallR X (.type id) rr) (hg : OpA X.K rr g) (hm : X.mg x = none) (ha : DAr X (e :: es) r) (hl : Gl X x := by rfl) (hv : bootBuiltins x = some (.type id) := by decide +kernel) (hn : x ≠ "__name__" := by decide) (hdb : (x == ("__debug__" : Str)) = false := by decide)
    (he : starEach (e :: es) X.env = (false, eval e X.env) :: starEach es X.env := by rfl) (hpl : (backTo pos (starEach es X.env)).any (·.1) = false := by rfl) : DE X (.Call (.Name x p) (e :: es) [] pos) (dCallB g r) :=
  de_of_tCB hg ha fun w => pe_callTy hc hl hm hv (ha.run w) hn hdb he hpl
end
end DL
namespace DL
open PySem PySem.Spec PyProof.Rows L2
/-- a constant of the module -/
structure GC (K : PySem.W.Frag) (mg : Str → Option Value) (x : Str) (d : D) : Prop where
  ex : ∃ v u, mg x = some u ∧ RelV v u ∧ ∀ F, Dq K F v d
theorem gv {X : Cx} {x : Str} {d : D} {pos : Pos} (c : GC X.K X.mg x d) (hg : Gl X x := by rfl) (hd : (x == ("__debug__" : Str)) = false := by decide) : DE X (.Name x pos) (dC d) := by
  obtain ⟨v, u, h1, h2, h3⟩ := c.ex
  exact de_glob (pe_glob hg h1 h2 hd) h3
abbrev gSub : G2 := gI0 fun i j => .int (i - j)
abbrev gPlus : G2 := gI0 fun i j => .int (i + j)
abbrev gMul : G2 := gI CMulW fun i j => .int (i * j)
abbrev gDiv : G2 := gI CDivW fun i j => .int (i / j)
abbrev gMod : G2 := gI (fun _ j => 0 < j) fun i j => .int (i % j)
abbrev gPow : G2 := gI CPow fun i j => .int (i ^ j.toNat)
abbrev gLt : G2 := gI0 fun i j => .bool (decide (i < j))
abbrev gLe : G2 := gI0 fun i j => .bool (decide (i ≤ j))
abbrev gGt : G2 := gI0 fun i j => .bool (decide (j < i))
abbrev gGe : G2 := gI0 fun i j => .bool (decide (j ≤ i))
/-! numbers of moderate size -/
theorem mulW {i j : Int} (hi : i.natAbs < 2 ^ 9000) (hj : j.natAbs < 2 ^ 9000) : CMulW i j := wide_mul (a := 9000) (b := 9000) hi hj (by decide) (by decide) (by decide)
theorem divW {i j : Int} (h : 0 < j) (hj : j.natAbs < 2 ^ 9000) : CDivW i j := wide_div (b := 9000) h hj (by decide) (by decide)
end DL

/-! ### a def promises what its body reads -/
namespace DL
open PySem PySem.Spec PyProof.Rows L2
def CLD (n : Nat) (N : List Str) (t : DSt) : C0 := fun ds P => ds.length = n ∧ ∃ P0 : D → Prop, (∀ d, P0 d → P d) ∧ t { nx := fun _ => P0 .none, rt := fun d _ => P0 d } (startE N ds)
def CLF (n : Nat) (N : List Str) (t : DSt) : CF := fun ds P => ds.length = n ∧ ∃ P0 : Ow → Prop, (∀ d, P0 d → P d) ∧ t { nx := fun _ => False, rt := fun _ _ => False, rf := fun es _ => P0 es } (startE N ds)
def CLB (n : Nat) (N : List Str) (t : DSt) : C1 := fun cs ds P => ds.length + 1 = n ∧ ∃ P0 : D → Ow → Prop, (∀ d c, P0 d c → P d c) ∧ t { nx := fun e => lentEnd P0 .none e, rt := lentEnd P0 } (startB N cs ds)
theorem cld_mono {n : Nat} {N : List Str} {t : DSt} : Mono0 (CLD n N t) := fun _ _ _ m ⟨l, P0, h, q⟩ => ⟨l, P0, fun d z => m d (h d z), q⟩
theorem clf_mono {n : Nat} {N : List Str} {t : DSt} : MonoF (CLF n N t) := fun _ _ _ m ⟨l, P0, h, q⟩ => ⟨l, P0, fun d z => m d (h d z), q⟩
theorem clb_mono {n : Nat} {N : List Str} {t : DSt} : Mono1 (CLB n N t) := fun _ _ _ _ m ⟨l, P0, h, q⟩ => ⟨l, P0, fun d c z => m d c (h d c z), q⟩
theorem CLD.of {n : Nat} {N : List Str} {t : DSt} {ds : List D} {P : D → Prop} (q : t { nx := fun _ => P .none, rt := fun d _ => P d } (startE N ds)) (l : ds.length = n := by rfl) : CLD n N t ds P := ⟨l, P, fun _ z => z, q⟩
theorem CLF.of {n : Nat} {N : List Str} {t : DSt} {ds : List D} {P : Ow → Prop} (q : t { nx := fun _ => False, rt := fun _ _ => False, rf := fun es _ => P es } (startE N ds)) (l : ds.length = n := by rfl) : CLF n N t ds P := ⟨l, P, fun _ z => z, q⟩
theorem CLB.of {n : Nat} {N : List Str} {t : DSt} {cs : Ow} {ds : List D} {P : D → Ow → Prop} (q : t { nx := fun e => lentEnd P .none e, rt := lentEnd P } (startB N cs ds)) (l : ds.length + 1 = n := by rfl) : CLB n N t cs ds P := ⟨l, P, fun _ _ z => z, q⟩
theorem lentEnd.mono {P P' : D → Ow → Prop} (m : ∀ d c, P d c → P' d c) (d : D) (e : Env) (h : lentEnd P d e) : lentEnd P' d e := by
  unfold lentEnd at h ⊢
  split at h
  · exact m _ _ h
  · exact h.elim
section
variable {P : Program} {w : World} {K : PySem.W.Frag} {mg : Str → Option Value} {base : Heap} {x : Str} {st : Stmt} {N ps : List Str} {k n : Nat}
theorem cal_d (A : DefAt K mg x st ps) (S : FnScope N ps (defScope st)) (t : DSt) (hn : n = ps.length)
    (body : ∀ f cdv A outer s H E, bodyRoom k x st f cdv A s → DSs (bodyCx P w K mg base N x st f cdv A outer s H E) (defBody st) t) : Cal P w K mg base (k + 1) x (spD K (CLD n N t)) :=
  cal_D A S _ t (fun ds P c => c.1.trans hn) body fun m ds P ⟨_, P0, h, q⟩ => m { nx := fun _ => P0 .none, rt := fun d _ => P0 d } _ _ ⟨fun _ z => h _ z, fun _ _ z => h _ z, fun _ _ z => z, fun _ z => z, fun _ z => z⟩ q
theorem cal_f (A : DefAt K mg x st ps) (S : FnScope N ps (defScope st)) (t : DSt) (hn : n = ps.length)
    (body : ∀ f cdv A outer s H E, bodyRoom k x st f cdv A s → DSs (bodyCx P w K mg base N x st f cdv A outer s H E) (defBody st) t) : Cal P w K mg base (k + 1) x (spF K (CLF n N t)) :=
  cal_F A S _ t (fun ds P c => c.1.trans hn) body fun m ds P ⟨_, P0, h, q⟩ => m { nx := fun _ => False, rt := fun _ _ => False, rf := fun es _ => P0 es } _ _ ⟨fun _ z => z, fun _ _ z => z, fun _ _ z => h _ z, fun _ z => z, fun _ z => z⟩ q
theorem cal_b (A : DefAt K mg x st ps) (S : FnScope N ps (defScope st)) (t : DSt) (hn : n = ps.length)
    (body : ∀ f cdv A outer s H E, bodyRoom k x st f cdv A s → DSs (bodyCx P w K mg base N x st f cdv A outer s H E) (defBody st) t) : Cal P w K mg base (k + 1) x (spB K (CLB n N t)) :=
  cal_B A S _ t (fun cs ds P c => c.1.trans hn) body fun m cs ds P ⟨_, P0, h, q⟩ => m { nx := fun e => lentEnd P0 .none e, rt := lentEnd P0 } _ _ ⟨fun _ z => lentEnd.mono h _ _ z, fun _ _ z => lentEnd.mono h _ _ z, fun _ _ z => z, fun _ z => z, fun _ z => z⟩ q
end
end DL

/-! The D layer, part 7: the ends of a law. -/
namespace DL
open PySem PySem.Spec PyProof.Rows L2

/-- the script as data that is only read -/
def scriptOf (ns : List Int) : D := .dict [(.none, .list (ns.map PyData.int))]
/-- the law's own def -/
structure LawAt (K : PySem.W.Frag) (mg : Str → Option Value) (x : Str) (st : Stmt) (p : Str) : Prop where
  ex : ∃ f fd, Fun K x x st f fd ∧ mg x = some (.ref f) ∧ ∀ (s : Shared) (u : Value), BindsTo s fd ⟨[u], []⟩ [(p, u)]
section
variable {P : Program} {w : World} {K : PySem.W.Frag} {mg : Str → Option Value} {x p : Str} {st : Stmt} {N ps : List Str} {k : Nat}
theorem law_d (A : LawAt K mg x st p) (S : FnScope N [p] (defScope st)) (t : DSt)
    (body : ∀ base f cdv A outer s H E, bodyRoom k x st f cdv A s → DSs (bodyCx P w K mg base N x st f cdv A outer s H E) (defBody st) t) :
    ∃ f fd, mg x = some (.ref f) ∧ (∀ (s : Shared) (u : Value), BindsTo s fd ⟨[u], []⟩ [(p, u)]) ∧ ∀ base, FnOk P w K mg base CX0 (k + 1) f fd [p] (spD K (CLD 1 N t)) := by
  obtain ⟨f, fd, F, m, b⟩ := A.ex
  exact ⟨f, fd, m, b, fun base => ok_D F S _ t (fun ds P c => c.1) (body base f) fun m ds P ⟨_, P0, h, q⟩ => m { nx := fun _ => P0 .none, rt := fun d _ => P0 d } _ _ ⟨fun _ z => h _ z, fun _ _ z => h _ z, fun _ _ z => z, fun _ z => z, fun _ z => z⟩ q⟩
variable {h : Heap} {f : Addr} {oc : Value} {od an : Option Addr} {osl : Array (Option Value)} {kV doc pm cdv ct : Value}
theorem defAt_mk (X : K.In h) (G : h.Ns mainGlobals mg) (b : ∀ (kV doc pm : Value) (an : Option Addr) (cdv ct : Value) (us : List Value), us.length = ps.length → bindArgs (PySem.W.fnOf x x (defArgs st) (defBody st) (defScope st) .none kV doc pm an cdv ct) ⟨us, []⟩ = pure (ps.zip us))
    (a : PySem.W.nsIn K mainGlobals x = some (some (.ref f))) (l : K.lookup f = some ⟨oc, od, .func (PySem.W.fnOf x x (defArgs st) (defBody st) (defScope st) .none kV doc pm an cdv ct), osl⟩) (c : PySem.W.codeIn K cdv x = true) (kp : PySem.W.keepIn K (.ref f) = true) : DefAt K mg x st ps :=
  ⟨_, _, fun_mk l c kp, PySem.W.mg_of X G a, (fun_mk l c kp).binds b⟩
theorem lawAt_mk (X : K.In h) (G : h.Ns mainGlobals mg) (b : ∀ (kV doc pm : Value) (an : Option Addr) (cdv ct : Value) (u : Value), bindArgs (PySem.W.fnOf x x (defArgs st) (defBody st) (defScope st) .none kV doc pm an cdv ct) ⟨[u], []⟩ = pure [(p, u)])
    (a : PySem.W.nsIn K mainGlobals x = some (some (.ref f))) (l : K.lookup f = some ⟨oc, od, .func (PySem.W.fnOf x x (defArgs st) (defBody st) (defScope st) .none kV doc pm an cdv ct), osl⟩) (c : PySem.W.codeIn K cdv x = true) (kp : PySem.W.keepIn K (.ref f) = true) : LawAt K mg x st p :=
  ⟨_, _, fun_mk l c kp, PySem.W.mg_of X G a, fun s u => .of_eq (b _ _ _ _ _ _ u)⟩
theorem gc_int {i : Int} {t : Nat} (X : K.In h) (G : h.Ns mainGlobals mg) (a : PySem.W.nsIn K mainGlobals x = some (some (.int i t))) : GC K mg x (.int i) := ⟨.int i, _, PySem.W.mg_of X G a, ⟨_, rfl⟩, fun F => .int i⟩
theorem gc_tup {ds : List D} {vs : List V} {q : Addr} {oc : Obj} {its : Array Value} {n : Nat} (X : K.In h) (G : h.Ns mainGlobals mg) (e : ∀ F, DqAll K F vs ds) (v : Vals vs its.toList) (z : its.size ≤ sizeLine) (c : oc.cls = .type "tuple") (d : oc.data = .seq its n) (a : PySem.W.nsIn K mainGlobals x = some (some (.ref q))) (l : K.lookup q = some oc) : GC K mg x (.tuple ds) :=
  ⟨.ref q, _, PySem.W.mg_of X G a, rfl, fun F => .tup (.inr ⟨oc, its, n, l, c, d, z, v⟩) (e F)⟩
theorem gc_far {q : Program} {lv : List (Str × PySem.W.WData)} {i : Int} (XX : PySem.W.XL q lv mg h) (m : (x, PySem.W.WData.int i) ∈ lv) : GC K mg x (.int i) := by
  obtain ⟨v, a, b⟩ := XX.2.val _ m
  obtain ⟨t, rfl, _⟩ := PySem.W.readsW_int_inv b
  exact ⟨.int i, _, a, ⟨_, rfl⟩, fun F => .int i⟩
end
theorem dq_true {K : PySem.W.Frag} {F : Hp} {v : V} {b : Bool} (h : Dq K F v (.bool b)) : v = .bl b := by cases h; rfl
theorem walk_d {l : PySem.W.OpenLaw} {n k : Nat} {q : Program} {loose : List Str} {XP : (Str → Option Value) → Heap → Prop} {YP : World → Heap → Prop} {d : DefRec} {K : Params → PySem.W.Frag} {C : C0} {x : Str}
    (hn : l.most = some n) (hn2 : n ≤ sizeLine) (hdf : d.params.defaults = []) (hr : Room k callerA) (hC : Mono0 C) (hp : ∀ ns : List Int, ns.length ≤ n → C [scriptOf ns] fun d => d = .bool true)
    (hY : ∀ (w : World) (h : Heap), YP w h → (K w.params).In h)
    (F : ∀ (w : World) (mg : Str → Option Value) (h : Heap), (K w.params).In h → h.Ns mainGlobals mg → XP mg h →
      ∃ fa fd, mg d.name = some (.ref fa) ∧ (∀ (s : Shared) (u : Value), BindsTo s fd ⟨[u], []⟩ [(x, u)]) ∧ ∀ base : Heap, FnOk l.prog w (K w.params) mg base CX0 k fa fd [x] (spD (K w.params) C)) :
    PySem.W.WalkO q loose XP YP l.row.toRowW d [] (fun f vs => PySem.call f vs) := by
  refine Att.attach_call hn hdf fun w s₀ s₁ mg mb fa o pm cd doc a vs ns G Y ho hd hcd hmg hobj hints hlen hg => ?_
  have KX := hY w _ Y
  obtain ⟨fb, fd, hm, hb, hF⟩ := F w mg _ KX G.T.g G.X
  rw [hm] at hmg
  cases hmg
  refine law_call KX G.T.g G.T.b G.T.builtins G.T.nolimit hg hobj hints (Nat.le_trans hlen hn2) hr (fun base _ _ => hF base) hb (fun H hO hS => ?_) fun _ _ _ z => z
  exact ⟨H, [scriptOf ns], Same.refl H, .cons (.scr hS (dpAll_ints ns)) .nil, hC _ _ _ (fun d hd F' H' v _ _ _ p => by subst hd; exact dq_true p) (hp ns hlen)⟩
end DL

/-! The D layer, part 8: readings as equations. -/
namespace DL
open PySem PySem.Spec PyProof.Rows L2
section
variable {e : Env} {Q : D → Env → Prop} {R : Bool → Env → Prop} {S : List D → Env → Prop} {SO : Ow → Env → Prop} {rf : DF} {T : Env → Prop} {f h k : DT} {t u : DB} {r : DA} {D0 : DEnds} {a b : DSt} {g : G2} {i j l : Nat} {P : D → Prop}
@[simp ↓] theorem s_c {d : D} : dC d e Q = Q d e := rfl
/-- the i-th slot -/
def ge (i : Nat) (e : Env) (K : Option Sl → Prop) : Prop := K e[i]?
/-- the i-th slot anew -/
def st (i : Nat) (s : Sl) (e : Env) (T : Env → Prop) : Prop := T (e.set i s)
@[simp ↓] theorem ge_0 {x : Sl} {rest : Env} {K : Option Sl → Prop} : ge 0 (x :: rest) K = K (some x) := rfl
@[simp ↓] theorem ge_S {x : Sl} {rest : Env} {K : Option Sl → Prop} : ge (i + 1) (x :: rest) K = ge i rest K := rfl
@[simp ↓] theorem st_0 {x s : Sl} {rest : Env} : st 0 s (x :: rest) T = T (s :: rest) := rfl
@[simp ↓] theorem st_S {x s : Sl} {rest : Env} : st (i + 1) s (x :: rest) T = st i s rest fun e => T (x :: e) := rfl
@[simp ↓] theorem s_var : dVar i e Q = ge i e fun z => match z with
  | some (.im d) => Q d e
  | some (.mu o) => match owD o with
    | some d => st i (.im d) e fun e' => Q d e'
    | none => False
  | _ => False := rfl
@[simp ↓] theorem s_bin : dBin g f h e Q = f e fun d1 e1 => h e1 fun d2 e2 => g d1 d2 fun d => Q d e2 := rfl
@[simp ↓] theorem s_b : dB f e R = f e fun d e' => match d with
  | .bool k => R k e'
  | _ => False := rfl
@[simp ↓] theorem s_chain {g' : G2} : dChain g g' f h k e Q = f e fun d1 e1 => h e1 fun d2 e2 => g d1 d2 fun z => match z with
  | .bool true => k e2 fun d3 e3 => g' d2 d3 fun d => Q d e3
  | .bool false => Q (.bool false) e2
  | _ => False := rfl
@[simp ↓] theorem s_gI {C : Int → Int → Prop} {kk : Int → Int → D} {x y : Int} : gI C kk (.int x) (.int y) P = (C x y ∧ P (kk x y)) := rfl
@[simp ↓] theorem s_gI0 {kk : Int → Int → D} {x y : Int} : gI0 kk (.int x) (.int y) P = P (kk x y) := rfl
@[simp ↓] theorem s_add {x y : Int} : gAdd (.int x) (.int y) P = P (.int (x + y)) := rfl
@[simp ↓] theorem s_eq {x y : Int} : gEq (.int x) (.int y) P = P (.bool (decide (x = y))) := rfl
@[simp ↓] theorem s_ne {x y : Int} : gNe (.int x) (.int y) P = P (.bool (!decide (x = y))) := rfl
theorem sh_int (x : Int) : SeqAt.shaped (.int x) = true := shaped_int x
@[simp ↓] theorem s_eq2 {x y x' y' : Int} : gEq (.tuple [.int x, .int y]) (.tuple [.int x', .int y']) P = P (.bool (x == x' && y == y')) := by
  unfold gEq
  simp [SeqAt.shaped, PyData.canLay0, PyData.canLayAll0, PyData.depth, PyData.depthAll, PyData.eqv, PyData.eqvAll]
@[simp ↓] theorem s_ne2 {x y x' y' : Int} : gNe (.tuple [.int x, .int y]) (.tuple [.int x', .int y']) P = P (.bool (x != x' || y != y')) := by
  unfold gNe
  simp [SeqAt.shaped, PyData.canLay0, PyData.canLayAll0, PyData.depth, PyData.depthAll, PyData.eqv, PyData.eqvAll, bne]
@[simp ↓] theorem s_eqB {x y : Bool} : gEq (.bool x) (.bool y) P = P (.bool (x == y)) := by
  unfold gEq
  cases x <;> cases y <;> simp [SeqAt.shaped, PyData.canLay0, PyData.canLayAll0, PyData.depth, PyData.depthAll, PyData.eqv, PyData.eqvAll]
@[simp ↓] theorem s_neB {x y : Bool} : gNe (.bool x) (.bool y) P = P (.bool (!(x == y))) := by
  unfold gNe
  cases x <;> cases y <;> simp [SeqAt.shaped, PyData.canLay0, PyData.canLayAll0, PyData.depth, PyData.depthAll, PyData.eqv, PyData.eqvAll]
@[simp ↓] theorem s_isN {d : D} : gIsN d .none P = P (.bool (isNone d)) := rfl
@[simp ↓] theorem s_notN {d : D} : gNotN d .none P = P (.bool (!isNone d)) := rfl
@[simp ↓] theorem s_none_int {x : Int} : isNone (.int x) = false := rfl
@[simp ↓] theorem s_none_none : isNone .none = true := rfl
@[simp ↓] theorem s_un {kk : Int → D} : dUn kk f e Q = f e fun d e1 => match d with
  | .int i => Q (kk i) e1
  | _ => False := rfl
@[simp ↓] theorem s_tru : dTru f e R = f e fun d e1 => match truD d with
  | some k => R k e1
  | none => False := rfl
@[simp ↓] theorem s_truI {x : Int} : truD (.int x) = some (x != 0) := rfl
@[simp ↓] theorem s_truB {x : Bool} : truD (.bool x) = some x := rfl
@[simp ↓] theorem s_and : dAnd t u e R = t e fun k e1 => if k = true then u e1 R else R false e1 := rfl
@[simp ↓] theorem s_or : dOr t u e R = t e fun k e1 => if k = true then R true e1 else u e1 R := rfl
@[simp ↓] theorem s_not : dNot t e R = t e fun k e1 => R (!k) e1 := rfl
@[simp ↓] theorem s_andV : dAndV f h e Q = f e fun d e1 => match d with
  | .bool true => h e1 Q
  | .bool false => Q (.bool false) e1
  | _ => False := rfl
@[simp ↓] theorem s_orV : dOrV f h e Q = f e fun d e1 => match d with
  | .bool true => Q (.bool true) e1
  | .bool false => h e1 Q
  | _ => False := rfl
@[simp ↓] theorem s_notV : dNotV f e Q = f e fun d e1 => match d with
  | .bool k => Q (.bool (!k)) e1
  | _ => False := rfl
@[simp ↓] theorem s_if : dIf t f h e Q = t e fun k e1 => if k = true then f e1 Q else h e1 Q := rfl
@[simp ↓] theorem s_nil : dNil e S = S [] e := rfl
@[simp ↓] theorem s_cons : dCons f r e S = f e fun d e1 => r e1 fun ds e2 => S (d :: ds) e2 := rfl
@[simp ↓] theorem s_tup : dTup r e Q = r e fun ds e1 => ds.length ≤ sizeLine ∧ Q (.tuple ds) e1 := rfl
@[simp ↓] theorem s_lst : dLst r e Q = r e fun ds e1 => ds.length ≤ sizeLine ∧ Q (.list ds) e1 := rfl
@[simp ↓] theorem s_flst : dFLst r e SO = r e fun ds e1 => ds.length ≤ sizeLine ∧ SO (.lst ds) e1 := rfl
@[simp ↓] theorem s_frz : dFrz rf e Q = rf e fun o e' => match owD o with
  | some d => Q d e'
  | none => False := rfl
@[simp] theorem owD_l {ds : List D} : owD (.lst ds) = some (.list ds) := rfl
@[simp] theorem owD_d {ds : List (Key × D)} : owD (.dct ds) = some (.dict (ds.map fun p => (kD p.1, p.2))) := rfl
theorem size_le {n : Nat} (h : n ≤ 1000) : n ≤ sizeLine := Nat.le_of_lt (small1000 h)
@[simp ↓] theorem sz0 : 0 ≤ sizeLine := size_le (by decide)
@[simp ↓] theorem sz1 : 1 ≤ sizeLine := size_le (by decide)
@[simp ↓] theorem sz2 : 2 ≤ sizeLine := size_le (by decide)
@[simp ↓] theorem sz3 : 3 ≤ sizeLine := size_le (by decide)
@[simp ↓] theorem sz4 : 4 ≤ sizeLine := size_le (by decide)
@[simp ↓] theorem sz5 : 5 ≤ sizeLine := size_le (by decide)
@[simp ↓] theorem sz6 : 6 ≤ sizeLine := size_le (by decide)
@[simp ↓] theorem s_ixT {ds : List D} {x : Int} : gIx (.tuple ds) (.int x) P = match atI ds x with
  | some d => P d
  | none => False := rfl
@[simp ↓] theorem s_ixL {ds : List D} {x : Int} : gIx (.list ds) (.int x) P = match atI ds x with
  | some d => P d
  | none => False := rfl
@[simp ↓] theorem s_ixS {ds : List D} {x : Int} : gIx (.dict [(.none, .list ds)]) (.int x) P = match atI ds x with
  | some d => P d
  | none => False := rfl
@[simp ↓] theorem at20 {x y : D} : atI [x, y] 0 = some x := rfl
@[simp ↓] theorem at21 {x y : D} : atI [x, y] 1 = some y := rfl
@[simp ↓] theorem at30 {x y z : D} : atI [x, y, z] 0 = some x := rfl
@[simp ↓] theorem at31 {x y z : D} : atI [x, y, z] 1 = some y := rfl
@[simp ↓] theorem at32 {x y z : D} : atI [x, y, z] 2 = some z := rfl
@[simp ↓] theorem s_ixN : dIxN i h e Q = ((ge i e fun z => ∃ ds, slItems z = some ds) ∧ h e fun d e1 => ge i e1 fun z => match slItems z, d with
  | some ds, .int k => match atI ds k with
    | some d => Q d e1
    | none => False
  | _, _ => False) := rfl
@[simp ↓] theorem s_itB {ds : List D} : slItems (some (.bo (.lst ds))) = some ds := rfl
@[simp ↓] theorem s_itM {ds : List D} : slItems (some (.mu (.lst ds))) = some ds := rfl
@[simp ↓] theorem s_itIL {ds : List D} : slItems (some (.im (.list ds))) = some ds := rfl
@[simp ↓] theorem s_itIT {ds : List D} : slItems (some (.im (.tuple ds))) = some ds := rfl
@[simp ↓] theorem s_owB {ds : Ow} : slOwn (some (.bo ds)) = some ds := rfl
@[simp ↓] theorem s_owM {ds : Ow} : slOwn (some (.mu ds)) = some ds := rfl
@[simp ↓] theorem s_loB {ds : List D} : slLst (some (.bo (.lst ds))) = some ds := rfl
@[simp ↓] theorem s_loM {ds : List D} : slLst (some (.mu (.lst ds))) = some ds := rfl
@[simp ↓] theorem s_puB {ds es : Ow} : slPut (some (.bo ds)) es = some (.bo es) := rfl
@[simp ↓] theorem s_puM {ds es : Ow} : slPut (some (.mu ds)) es = some (.mu es) := rfl
@[simp ↓] theorem s_callB {gg : G1} : dCallB gg r e Q = r e fun ds e1 => gg ds fun d => Q d e1 := rfl
@[simp ↓] theorem s_call {C : C0} : dCall C r e Q = r e fun ds e1 => C ds fun d => Q d e1 := rfl
@[simp ↓] theorem s_fcall {C : CF} : dFCall C r e SO = r e fun ds e1 => C ds fun es => SO es e1 := rfl
@[simp ↓] theorem s_callL {C : C1} : dCallL i C r e Q = ((ge i e fun z => ∃ cs, slOwn z = some cs) ∧ r e fun ds e1 => ge i e1 fun z => match slOwn z with
  | some cs => C cs ds fun d cs' => ∀ s, slPut z cs' = some s → st i s e1 fun e2 => Q d e2
  | none => False) := rfl
@[simp ↓] theorem s_lenN : dLenN i e Q = ge i e fun z => match slItems z with
  | some ds => Q (.int (ds.length : Nat)) e
  | none => False := rfl
@[simp ↓] theorem s_lenL {ds : List D} : gLen [.list ds] P = P (.int (ds.length : Nat)) := rfl
@[simp ↓] theorem s_lenT {ds : List D} : gLen [.tuple ds] P = P (.int (ds.length : Nat)) := rfl
@[simp ↓] theorem s_lenS {ds : List D} : gLen [.dict [(.none, .list ds)]] P = P (.int (ds.length : Nat)) := rfl
@[simp ↓] theorem s_abs {x : Int} : gAbs [.int x] P = P (.int (if x < 0 then -x else x)) := rfl
@[simp ↓] theorem s_max {x y : Int} : gMax [.int x, .int y] P = P (.int (if y > x then y else x)) := rfl
@[simp ↓] theorem s_min {x y : Int} : gMin [.int x, .int y] P = P (.int (if y < x then y else x)) := rfl
@[simp ↓] theorem s_int {x : Int} : gInt [.int x] P = P (.int x) := rfl
@[simp ↓] theorem s_intB {x : Bool} : gInt [.bool x] P = P (.int (if x then 1 else 0)) := rfl
@[simp ↓] theorem s_sum {es : List D} : gSum [.list es] P = match intsOf es with
  | some ns => P (.int ns.sum)
  | none => False := rfl
@[simp ↓] theorem s_all {es : List D} : gAll [.list es] P = match boolsOf es with
  | some ns => P (.bool (ns.all id))
  | none => False := rfl
@[simp ↓] theorem s_tupT {es : List D} : gTuple [.tuple es] P = P (.tuple es) := rfl
@[simp ↓] theorem s_tupL {es : List D} : gTuple [.list es] P = P (.tuple es) := rfl
@[simp ↓] theorem s_lstT {es : List D} : gList [.tuple es] P = P (.list es) := rfl
@[simp ↓] theorem s_lstL {es : List D} : gList [.list es] P = P (.list es) := rfl
@[simp ↓] theorem s_isi {T : String} : dIsi T f e Q = f e fun d e1 => match kitB (tyName d) T with
  | some k => Q (.bool k) e1
  | none => False := rfl
@[simp ↓] theorem s_tyI {x : Int} : tyName (.int x) = "int" := rfl
@[simp ↓] theorem s_tyB {x : Bool} : tyName (.bool x) = "bool" := rfl
/-! statements -/
@[simp ↓] theorem s_pass : dPass D0 e = D0.nx e := rfl
@[simp ↓] theorem s_seq : dSeq a b D0 e = a { D0 with nx := b D0 } e := rfl
@[simp ↓] theorem s_break : dBreak D0 e = D0.bk e := rfl
@[simp ↓] theorem s_cont : dCont D0 e = D0.ct e := rfl
@[simp ↓] theorem s_drop : dDrop f D0 e = f e fun _ e' => D0.nx e' := rfl
@[simp ↓] theorem s_ret : dRet f D0 e = f e D0.rt := rfl
@[simp ↓] theorem s_retF : dRetF rf D0 e = rf e D0.rf := rfl
@[simp ↓] theorem s_retN : dRetN D0 e = D0.rt .none e := rfl
@[simp ↓] theorem s_ifS : dIfS t a b D0 e = t e fun k e' => if k = true then a D0 e' else b D0 e' := rfl
@[simp ↓] theorem s_never : dNever D0 e = False := rfl
@[simp ↓] theorem s_gName {d : D} : dgName i d e T = st i (.im d) e T := rfl
@[simp ↓] theorem s_gNil {ds : List D} : dgNil ds e T = (ds = [] ∧ T e) := rfl
@[simp ↓] theorem s_gCons {gg : DTg} {rr : DTgs} {d : D} {ds : List D} : dgCons gg rr (d :: ds) e T = gg d e fun e1 => rr ds e1 T := rfl
@[simp ↓] theorem s_gTup {n : Nat} {rr : DTgs} {ds : List D} : dgTup n rr (.tuple ds) e T = (ds.length = n ∧ rr ds e T) := rfl
@[simp ↓] theorem s_gLst {n : Nat} {rr : DTgs} {ds : List D} : dgLst n rr (.list ds) e T = (ds.length = n ∧ rr ds e T) := rfl
@[simp ↓] theorem s_asg {gg : DTg} : dAsg f gg D0 e = f e fun d e1 => gg d e1 D0.nx := rfl
@[simp ↓] theorem s_asgF : dAsgF rf i D0 e = rf e fun ds e1 => st i (.mu ds) e1 D0.nx := rfl
@[simp ↓] theorem s_par : dPar i j r D0 e = r e fun ds e1 => match ds with
  | [d1, d2] => st i (.im d1) e1 fun e2 => st j (.im d2) e2 D0.nx
  | _ => False := rfl
@[simp ↓] theorem s_par3 : dPar3 i j l r D0 e = r e fun ds e1 => match ds with
  | [d1, d2, d3] => st i (.im d1) e1 fun e2 => st j (.im d2) e2 fun e3 => st l (.im d3) e3 D0.nx
  | _ => False := rfl
@[simp ↓] theorem s_aug : dAug i g f D0 e = ge i e fun z => match z with
  | some (.im d1) => f e fun d2 e1 => g d1 d2 fun d => st i (.im d) e1 D0.nx
  | _ => False := rfl
@[simp ↓] theorem s_append : dAppend i f D0 e = ((ge i e fun z => ∃ ds, slLst z = some ds) ∧ f e fun d e1 => ge i e1 fun z => match slLst z with
  | some ds => ds.length < sizeLine ∧ ∀ s, slPut z (.lst (ds ++ [d])) = some s → st i s e1 D0.nx
  | none => False) := rfl
@[simp ↓] theorem s_setIx : dSetIx i k f D0 e = f e fun d e1 => (ge i e1 fun z => ∃ ds, slLst z = some ds) ∧ k e1 fun dk e2 => ge i e2 fun z => match dk, slLst z with
  | .int n, some ds => match ixN ds.length n with
    | some j => ∀ s, slPut z (.lst (ds.set j d)) = some s → st i s e2 D0.nx
    | none => False
  | _, _ => False := rfl
@[simp ↓] theorem s_ix20 : ixN 2 0 = some 0 := rfl
@[simp ↓] theorem s_ix21 : ixN 2 1 = some 1 := rfl
@[simp ↓] theorem s_lentEnd {PP : D → Ow → Prop} {d : D} {cs : Ow} {rest : Env} : lentEnd PP d (.bo cs :: rest) = PP d cs := rfl
@[simp ↓] theorem s_itL : dItL f e S = f e fun d e' => match d with
  | .list ds => S ds e'
  | _ => False := rfl
@[simp ↓] theorem s_itT : dItT f e S = f e fun d e' => match d with
  | .tuple ds => S ds e'
  | _ => False := rfl
@[simp ↓] theorem s_rng1 : dRng1 r e S = r e fun ds e' => match ds with
  | [.int j] => -(2 ^ 62) ≤ j ∧ j < 2 ^ 62 ∧ S (upto 0 j.toNat) e'
  | _ => False := rfl
@[simp ↓] theorem s_rng2 : dRng2 r e S = r e fun ds e' => match ds with
  | [.int i, .int j] => (-(2 ^ 62) ≤ i ∧ i < 2 ^ 62 ∧ -(2 ^ 62) ≤ j ∧ j < 2 ^ 62) ∧ S (upto i (j - i).toNat) e'
  | _ => False := rfl
theorem s_for {wi : DI} {gg : DTg} : dFor wi gg b D0 e = wi e fun ds e1 => ∃ Pv : Nat → Env → Prop, Pv 0 e1 ∧
  (∀ i d e2, ds[i]? = some d → Pv i e2 → gg d e2 fun e3 => b { D0 with nx := Pv (i + 1), ct := Pv (i + 1), bk := D0.nx } e3) ∧ ∀ e2, Pv ds.length e2 → D0.nx e2 := rfl
theorem s_while : dWhile t b D0 e = ∃ W : Nat → Env → Prop, (∃ m, W m e) ∧ ∀ m e, W m e → t e fun k e1 => if k = true then b { D0 with nx := fun e' => ∃ m', m' < m ∧ W m' e', ct := fun e' => ∃ m', m' < m ∧ W m' e', bk := D0.nx } e1 else D0.nx e1 := rfl
@[simp ↓] theorem s_yes : dYes e R = R true e := rfl
theorem s_comp {wi : DI} {gd : DTg} {vs : List Nat} : dComp wi gd t f vs e SO = wi e fun ds e1 => ∃ Pv : Nat → List D → Env → Prop, Pv 0 [] (wipeE e1 vs) ∧
  (∀ i d acc e2, ds[i]? = some d → Pv i acc e2 → gd d e2 fun e3 => t e3 fun k e4 => if k = true then f e4 fun y e5 => acc.length < sizeLine ∧ Pv (i + 1) (acc ++ [y]) (wipeE e5 vs) else Pv (i + 1) acc (wipeE e4 vs)) ∧
  ∀ acc e2, Pv ds.length acc e2 → SO (.lst acc) e2 := rfl
@[simp] theorem s_wipe0 : wipeE e [] = e := rfl
@[simp] theorem s_wipe1 {v : Nat} {vs : List Nat} : wipeE e (v :: vs) = (wipeE e vs).set v .un := rfl
theorem while_by (W : Nat → Env → Prop) (h0 : ∃ m, W m e) (hs : ∀ m e, W m e → t e fun k e1 => if k = true then b { D0 with nx := fun e' => ∃ m', m' < m ∧ W m' e', ct := fun e' => ∃ m', m' < m ∧ W m' e', bk := D0.nx } e1 else D0.nx e1) : dWhile t b D0 e := ⟨W, h0, hs⟩
theorem for_rng1 {rr : DA} {gg : DTg} {j : Int} {e1 : Env} (hr : ∀ S : List D → Env → Prop, S [.int j] e1 → rr e S) (h1 : -(2 ^ 62) ≤ j) (h2 : j < 2 ^ 62) (Pv : Nat → Env → Prop) (h0 : Pv 0 e1)
    (hs : ∀ (i : Nat) e2, (i : Int) < j → Pv i e2 → gg (.int i) e2 fun e3 => b { D0 with nx := Pv (i + 1), ct := Pv (i + 1), bk := D0.nx } e3) (hd : ∀ e2, Pv j.toNat e2 → D0.nx e2) : dFor (dRng1 rr) gg b D0 e := by
  refine hr _ ⟨h1, h2, Pv, h0, fun i d e2 q p => ?_, fun e2 p => hd e2 (by rw [upto_len] at p; exact p)⟩
  obtain ⟨l, rfl⟩ := upto_get _ _ _ q
  rw [Int.zero_add]
  exact hs i e2 (by omega) p
theorem for_list {ff : DT} {gg : DTg} {ds : List D} {e1 : Env} (hr : ∀ Q : D → Env → Prop, Q (.list ds) e1 → ff e Q) (Pv : Nat → Env → Prop) (h0 : Pv 0 e1)
    (hs : ∀ (i : Nat) d e2, ds[i]? = some d → Pv i e2 → gg d e2 fun e3 => b { D0 with nx := Pv (i + 1), ct := Pv (i + 1), bk := D0.nx } e3) (hd : ∀ e2, Pv ds.length e2 → D0.nx e2) : dFor (dItL ff) gg b D0 e :=
  hr _ ⟨Pv, h0, hs, hd⟩
theorem for_tup {ff : DT} {gg : DTg} {ds : List D} {e1 : Env} (hr : ∀ Q : D → Env → Prop, Q (.tuple ds) e1 → ff e Q) (Pv : Nat → Env → Prop) (h0 : Pv 0 e1)
    (hs : ∀ (i : Nat) d e2, ds[i]? = some d → Pv i e2 → gg d e2 fun e3 => b { D0 with nx := Pv (i + 1), ct := Pv (i + 1), bk := D0.nx } e3) (hd : ∀ e2, Pv ds.length e2 → D0.nx e2) : dFor (dItT ff) gg b D0 e :=
  hr _ ⟨Pv, h0, hs, hd⟩
theorem comp_rng1 {rr : DA} {gg : DTg} {vs : List Nat} {j : Int} {e1 : Env} (hr : ∀ S : List D → Env → Prop, S [.int j] e1 → rr e S) (h1 : -(2 ^ 62) ≤ j) (h2 : j < 2 ^ 62) (Pv : Nat → List D → Env → Prop) (h0 : Pv 0 [] (wipeE e1 vs))
    (hs : ∀ (i : Nat) acc e2, (i : Int) < j → Pv i acc e2 → gg (.int i) e2 fun e3 => t e3 fun k e4 => if k = true then f e4 fun y e5 => acc.length < sizeLine ∧ Pv (i + 1) (acc ++ [y]) (wipeE e5 vs) else Pv (i + 1) acc (wipeE e4 vs))
    (hd : ∀ acc e2, Pv j.toNat acc e2 → SO (.lst acc) e2) : dComp (dRng1 rr) gg t f vs e SO := by
  refine hr _ ⟨h1, h2, Pv, h0, fun i d acc e2 q p => ?_, fun acc e2 p => hd acc e2 (by rw [upto_len] at p; exact p)⟩
  obtain ⟨l, rfl⟩ := upto_get _ _ _ q
  rw [Int.zero_add]
  exact hs i acc e2 (by omega) p
theorem comp_rng2 {rr : DA} {gg : DTg} {vs : List Nat} {i0 j : Int} {e1 : Env} (hr : ∀ S : List D → Env → Prop, S [.int i0, .int j] e1 → rr e S) (h1 : -(2 ^ 62) ≤ i0 ∧ i0 < 2 ^ 62 ∧ -(2 ^ 62) ≤ j ∧ j < 2 ^ 62) (Pv : Nat → List D → Env → Prop) (h0 : Pv 0 [] (wipeE e1 vs))
    (hs : ∀ (i : Nat) acc e2, i0 + (i : Int) < j → Pv i acc e2 → gg (.int (i0 + i)) e2 fun e3 => t e3 fun k e4 => if k = true then f e4 fun y e5 => acc.length < sizeLine ∧ Pv (i + 1) (acc ++ [y]) (wipeE e5 vs) else Pv (i + 1) acc (wipeE e4 vs))
    (hd : ∀ acc e2, Pv (j - i0).toNat acc e2 → SO (.lst acc) e2) : dComp (dRng2 rr) gg t f vs e SO := by
  refine hr _ ⟨h1, Pv, h0, fun i d acc e2 q p => ?_, fun acc e2 p => hd acc e2 (by rw [upto_len] at p; exact p)⟩
  obtain ⟨l, rfl⟩ := upto_get _ _ _ q
  exact hs i acc e2 (by omega) p
theorem comp_list {ff : DT} {gg : DTg} {vs : List Nat} {ds : List D} {e1 : Env} (hr : ∀ Q : D → Env → Prop, Q (.list ds) e1 → ff e Q) (Pv : Nat → List D → Env → Prop) (h0 : Pv 0 [] (wipeE e1 vs))
    (hs : ∀ (i : Nat) d acc e2, ds[i]? = some d → Pv i acc e2 → gg d e2 fun e3 => t e3 fun k e4 => if k = true then f e4 fun y e5 => acc.length < sizeLine ∧ Pv (i + 1) (acc ++ [y]) (wipeE e5 vs) else Pv (i + 1) acc (wipeE e4 vs))
    (hd : ∀ acc e2, Pv ds.length acc e2 → SO (.lst acc) e2) : dComp (dItL ff) gg t f vs e SO :=
  hr _ ⟨Pv, h0, hs, hd⟩
/-- a loop over known data, turn by turn -/
def runF (gg : DTg) (b : DSt) (D0 : DEnds) : List D → Env → Prop
  | [], e => D0.nx e
  | d :: r, e => gg d e fun e3 => b { D0 with nx := runF gg b D0 r, ct := runF gg b D0 r, bk := D0.nx } e3
theorem run_by {gg : DTg} {ds : List D} {e1 : Env} (h : runF gg b D0 ds e1) : ∃ Pv : Nat → Env → Prop, Pv 0 e1 ∧
    (∀ i d e2, ds[i]? = some d → Pv i e2 → gg d e2 fun e3 => b { D0 with nx := Pv (i + 1), ct := Pv (i + 1), bk := D0.nx } e3) ∧ ∀ e2, Pv ds.length e2 → D0.nx e2 := by
  refine ⟨fun i e => runF gg b D0 (ds.drop i) e, h, fun i d e2 q p => ?_, fun e2 p => ?_⟩
  · have hi : i < ds.length := (List.getElem?_eq_some_iff.mp q).1
    have e : ds.drop i = d :: ds.drop (i + 1) := by
      rw [List.drop_eq_getElem_cons hi]
      rw [List.getElem?_eq_getElem hi] at q
      rw [Option.some.inj q]
    have p' : runF gg b D0 (ds.drop i) e2 := p
    rw [e] at p'
    exact p'
  · have p' : runF gg b D0 (ds.drop ds.length) e2 := p
    rw [List.drop_length] at p'
    exact p'
theorem for_runT {ff : DT} {gg : DTg} {ds : List D} {e1 : Env} (hr : ∀ Q : D → Env → Prop, Q (.tuple ds) e1 → ff e Q) (h : runF gg b D0 ds e1) : dFor (dItT ff) gg b D0 e := hr _ (run_by h)
theorem for_runL {ff : DT} {gg : DTg} {ds : List D} {e1 : Env} (hr : ∀ Q : D → Env → Prop, Q (.list ds) e1 → ff e Q) (h : runF gg b D0 ds e1) : dFor (dItL ff) gg b D0 e := hr _ (run_by h)
theorem run_nil {gg : DTg} : runF gg b D0 [] e = D0.nx e := rfl
theorem run_cons {gg : DTg} {d : D} {ds : List D} : runF gg b D0 (d :: ds) e = gg d e fun e3 => b { D0 with nx := runF gg b D0 ds, ct := runF gg b D0 ds, bk := D0.nx } e3 := rfl
@[simp ↓] theorem kit_ii : kitB "int" "int" = some true := by decide +kernel
@[simp ↓] theorem kit_ib : kitB "int" "bool" = some false := by decide +kernel
@[simp ↓] theorem kit_bi : kitB "bool" "int" = some true := by decide +kernel
@[simp ↓] theorem kit_bb : kitB "bool" "bool" = some true := by decide +kernel
end
end DL

/-! The D layer, part 9: dicts, slices, zip, and smaller things. -/
namespace DL
open PySem PySem.Spec PyProof.Rows L2

/-! ### dicts of ints and texts -/
def keyOf : D → Option Key
  | .int i => some (.inl i)
  | .str x => some (.inr x)
  | _ => none
theorem key_dq {K : PySem.W.Frag} {F : Hp} {v : V} {d : D} {k : Key} (h : keyOf d = some k) (p : Dq K F v d) : v = kV k := by
  unfold keyOf at h
  split at h
  · cases h; exact dp_int p
  · cases h; exact dp_str p
  · cases h
def valD (kvs : List (Key × D)) (k : Key) : Option D := (kvs.find? fun kv => decide (kv.1 = k)).map (·.2)
def putD (kvs : List (Key × D)) (k : Key) (d : D) : List (Key × D) :=
  if (kvs.any fun kv => decide (kv.1 = k)) = true then kvs.map (fun kv => if kv.1 = k then (kv.1, d) else kv) else kvs ++ [(k, d)]
theorem KvR.val {K : PySem.W.Frag} {F : Hp} (k : Key) : ∀ {xs : List (Key × V)} {ds : List (Key × D)}, KvR K F xs ds → (valV xs k = none ∧ valD ds k = none) ∨ ∃ v d, valV xs k = some v ∧ valD ds k = some d ∧ Dq K F v d
  | _, _, .nil => .inl ⟨rfl, rfl⟩
  | _, _, .cons (k := j) (v := v) (d := d) h t => by
    by_cases e : j = k
    · refine .inr ⟨v, d, ?_, ?_, h⟩
      · exact valV_pos e
      · unfold valD; rw [List.find?_cons_of_pos (by simpa using e)]; rfl
    · have e1 : ∀ r : List (Key × V), valV ((j, v) :: r) k = valV r k := fun r => valV_neg e
      have e2 : ∀ r : List (Key × D), valD ((j, d) :: r) k = valD r k := fun r => by unfold valD; rw [List.find?_cons_of_neg (by simpa using e)]
      rw [e1, e2]
      exact t.val k
theorem KvR.any {K : PySem.W.Frag} {F : Hp} (k : Key) : ∀ {xs : List (Key × V)} {ds : List (Key × D)}, KvR K F xs ds → (xs.any fun kv => decide (kv.1 = k)) = (ds.any fun kv => decide (kv.1 = k))
  | _, _, .nil => rfl
  | _, _, .cons h t => by rw [List.any_cons, List.any_cons, t.any k]
theorem KvR.repl {K : PySem.W.Frag} {F : Hp} (k : Key) {v : V} {d : D} (p : Dq K F v d) : ∀ {xs : List (Key × V)} {ds : List (Key × D)}, KvR K F xs ds → KvR K F (xs.map fun kv => if kv.1 = k then (kv.1, v) else kv) (ds.map fun kv => if kv.1 = k then (kv.1, d) else kv)
  | _, _, .nil => .nil
  | _, _, .cons (k := j) h t => by
    rw [List.map_cons, List.map_cons]
    by_cases e : j = k
    · rw [if_pos e, if_pos e]; exact .cons p (t.repl k p)
    · rw [if_neg e, if_neg e]; exact .cons h (t.repl k p)
theorem KvR.snoc {K : PySem.W.Frag} {F : Hp} (k : Key) {v : V} {d : D} (p : Dq K F v d) : ∀ {xs : List (Key × V)} {ds : List (Key × D)}, KvR K F xs ds → KvR K F (xs ++ [(k, v)]) (ds ++ [(k, d)])
  | _, _, .nil => .cons p .nil
  | _, _, .cons h t => .cons h (t.snoc k p)
theorem KvR.put {K : PySem.W.Frag} {F : Hp} (k : Key) {v : V} {d : D} (p : Dq K F v d) {xs : List (Key × V)} {ds : List (Key × D)} (r : KvR K F xs ds) : KvR K F (putK xs k v) (putD ds k d) := by
  unfold putK putD
  rw [r.any k]
  split
  · exact r.repl k p
  · exact r.snoc k p
theorem KvR.len {K : PySem.W.Frag} {F : Hp} : ∀ {xs : List (Key × V)} {ds : List (Key × D)}, KvR K F xs ds → xs.length = ds.length
  | _, _, .nil => rfl
  | _, _, .cons _ t => congrArg (· + 1) t.len
def slDct (z : Option Sl) : Option (List (Key × D)) := match slOwn z with
  | some (.dct ds) => some ds
  | _ => none
theorem slDct_own {z : Option Sl} {ds : List (Key × D)} (h : slDct z = some ds) : slOwn z = some (.dct ds) := by
  unfold slDct at h
  split at h
  · rename_i e; cases h; exact e
  · cases h
theorem Rel.ownedD {K : PySem.W.Frag} {w : Wd} {F : Hp} {ad : Nat → Addr} {σ : L2.St} {H : Hp} {e : Env} {i : Nat} {ds : List (Key × D)} (R : Rel K w F ad σ H e) (q : slDct e[i]? = some ds) :
    ∃ p xs, σ[i]? = some (some (.ref p)) ∧ H p = some (.dK xs) ∧ KvR K F xs ds ∧ F p = none ∧
      ∀ ys es, KvR K F ys es → ∃ s, slPut e[i]? (.dct es) = some s ∧ Rel K w F ad σ (upd H p (.dK ys)) (e.set i s) := by
  obtain ⟨p, ho, h1, h2, h3, h4, up⟩ := R.owned (slDct_own q)
  obtain ⟨xs, rfl, h5⟩ := owr_dct h3
  exact ⟨p, xs, h1, h2, h5, h4, fun ys es h => up _ _ (.dct h)⟩
section
variable {X : Cx} {x y a b c : Expr} {f g h k : DT} {t u : DB} {pos apos cpos pos' : Pos} {st : Stmt}
/-- {} -/
def dDNew : DF := fun e Q => Q (.dct []) e
theorem df_dnew : DFe X (.Dict [] [] pos) dDNew := by
  refine ⟨fun w => PE.imp pe_dnewK ?_, fun e Q Q' m q => m _ _ q⟩
  rintro σ H Q ⟨F, ad, e, R, q⟩ p hp
  obtain ⟨R2, fr⟩ := R.layOwn (o := .dK []) hp
  exact q F ad _ p _ (Same.refl F) R2 upd_same fr (.dct .nil)
/-- x[k] = e, x a name, a dict of one's own -/
def dDPut (i : Nat) (k f : DT) : DSt := fun D e => f e fun d e1 => (∃ ds, slDct e1[i]? = some ds) ∧ k e1 fun dk e2 => match keyOf dk, slDct e2[i]? with
  | some kk, some ds => ds.length < sizeLine ∧ ∀ s, slPut e2[i]? (.dct (putD ds kk d)) = some s → D.nx (e2.set i s)
  | _, _ => False
theorem ds_dput (i : Nat) {o : Expr} (hu : X.A.units + 1 < cLine) (ho : PE X o (tVar i)) (ha : DE X a f) (hk : DE X b k) (hs : swapsWith a (some (.Subscript o b pos')) pos.line X.env = pure false := by rfl) : DS X (.Assign [.Subscript o b pos'] a pos) (dDPut i k f) := by
  refine ⟨fun w => PS.imp (ps_dput hu ho (hk.run w) (ha.run w) hs) ?_, fun A B e l q => ha.mono _ _ _ (fun d e1 q1 => ⟨q1.1, hk.mono _ _ _ (fun dk e2 q2 => ?_) q1.2⟩) q⟩
  · rintro D σ H ⟨F, ad, e, R, q⟩
    refine ⟨F, ad, e, R, ha.mono _ _ _ (fun d e1 q1 F1 ad1 H1 v s1 R1 p1 => ?_) q⟩
    obtain ⟨⟨ds0, q0⟩, q1⟩ := q1
    obtain ⟨p, xs0, h0, _⟩ := R1.ownedD q0
    refine ⟨_, h0, F1, ad1, e1, R1, hk.mono _ _ _ (fun dk e2 q2 F2 ad2 H2 vk s2 R2 p2 => ?_) q1⟩
    split at q2
    · rename_i kk ds hkk hds
      obtain ⟨p3, xs, h3, h4, h5, _, up⟩ := R2.ownedD hds
      rw [h0] at h3
      cases h3
      obtain ⟨s, hs, R3⟩ := up _ _ (h5.put kk (dp_mono s2 _ _ p1))
      exact ⟨p, _, rfl, .inl ⟨xs, kk, h4, key_dq hkk p2, by rw [h5.len]; exact q2.1, rfl⟩, q2.2 s hs F2 ad2 σ _ R3⟩
    · exact q2.elim
  · split at q2
    · exact ⟨q2.1, fun s hs => l.nx _ (q2.2 s hs)⟩
    · exact q2.elim
/-- x.get(k, z), x a name, a dict of one's own -/
def dDGet2 (i : Nat) (k f : DT) : DT := fun e Q => (∃ ds, slDct e[i]? = some ds) ∧ k e fun dk e1 => (∃ ds, slDct e1[i]? = some ds) ∧ f e1 fun dz e2 => match keyOf dk, slDct e2[i]? with
  | some kk, some ds => Q ((valD ds kk).getD dz) e2
  | _, _ => False
theorem de_dget2 (i : Nat) {o : Expr} (hu : X.A.units + 1 < cLine) (ho : PE X o (tVar i)) (hk : DE X a k) (hf : DE X b f) (m : M2 X o "get" apos a b cpos) : DE X (.Call (.Attribute o "get" apos) [a, b] [] cpos) (dDGet2 i k f) := by
  refine ⟨fun w => PE.imp (pe_dget2 hu ho (hk.run w) (hf.run w) m) ?_, fun e Q Q' m q => ⟨q.1, hk.mono _ _ _ (fun dk e1 q1 => ⟨q1.1, hf.mono _ _ _ (fun dz e2 q2 => ?_) q1.2⟩) q.2⟩⟩
  · rintro σ H Q ⟨F, ad, e, R, ⟨ds0, q0⟩, q⟩
    obtain ⟨p, xs0, h0, h1, _⟩ := R.ownedD q0
    refine ⟨_, h0, p, rfl, .inl ⟨xs0, Rd.of h1⟩, F, ad, e, R, hk.mono _ _ _ (fun dk e1 q1 F1 ad1 H1 vk s1 R1 p1 => ?_) q⟩
    refine ⟨F1, ad1, e1, R1, hf.mono _ _ _ (fun dz e2 q2 F2 ad2 H2 vz s2 R2 p2 => ?_) q1.2⟩
    split at q2
    · rename_i kk ds hkk hds
      obtain ⟨p3, xs, h3, h4, h5, _⟩ := R2.ownedD hds
      rw [h0] at h3
      cases h3
      refine ⟨valV xs kk, .inl ⟨xs, kk, Rd.of h4, key_dq hkk p1, rfl⟩, ?_⟩
      rcases h5.val kk with ⟨z1, z2⟩ | ⟨v, d, z1, z2, z3⟩
      · rw [z1]
        rw [z2] at q2
        exact q2 F2 ad2 H2 vz (s1.trans s2) R2 p2
      · rw [z1]
        rw [z2] at q2
        exact q2 F2 ad2 H2 v (s1.trans s2) R2 z3
    · exact q2.elim
  · split at q2
    · exact m _ _ q2
    · exact q2.elim
/-- the keys of a dict that is data -/
def dItK (f : DT) : DI := fun e Q => f e fun d e' => match d with
  | .dict kvs => (kvs.all fun p => (keyOf p.1).isSome) = true ∧ Q (kvs.map (·.1)) e'
  | _ => False
theorem kv_get {K : PySem.W.Frag} {F : Hp} : ∀ {xs : List (Key × V)} {ds : List (D × D)} {i : Nat} {d : D}, DqKv K F xs ds → (ds.map (·.1))[i]? = some d → ∃ k v, xs[i]? = some (k, v) ∧ d = kD k
  | _, _, 0, d, .cons (k := k) (v := v) h0 h t, e => by
    have e' := Option.some.inj e
    exact ⟨k, v, rfl, by rw [← e']; exact h0⟩
  | _, _, i + 1, d, .cons h0 h t, e => kv_get (i := i) t e
  | _, _, i, d, .nil, e => by simp at e
theorem kv_len {K : PySem.W.Frag} {F : Hp} : ∀ {xs : List (Key × V)} {ds : List (D × D)}, DqKv K F xs ds → xs.length = ds.length
  | _, _, .nil => rfl
  | _, _, .cons _ _ t => congrArg (· + 1) (kv_len t)
theorem kd_dq {K : PySem.W.Frag} {F : Hp} (k : Key) : Dq K F (kV k) (kD k) := by
  cases k with
  | inl i => exact .int i
  | inr x => exact .str x
theorem di_keys {tg : Expr} (ha : DE X a f) : DIt X tg a (dItK f) := by
  refine ⟨fun w => PI.imp (pi_keys (ha.run w)) ?_, fun e Q Q' m q => ha.mono _ _ _ (fun d e' q' => ?_) q⟩
  · rintro σ H R ⟨F, ad, e, Rl, q⟩
    refine ⟨F, ad, e, Rl, ha.mono _ _ _ (fun d e' q' F' ad' H' v s' R' p => ?_) q⟩
    split at q'
    · rename_i kvs
      generalize ed : (PyData.dict kvs) = dd at p
      cases p with
      | scr _ _ =>
        cases ed
        have := q'.1
        simp [keyOf] at this
      | @dct pp o xs ds hF hk =>
        cases ed
        refine ⟨pp, o, rfl, .inl ⟨xs, R'.sub _ _ hF, ?_⟩⟩
        refine q'.2 F' ad' H' _ s' R' ⟨fun i H2 sm l => ⟨sm _ _ hF, ?_⟩, fun i H2 sm l => ⟨sm _ _ hF, ?_⟩, fun i H2 H3 x d sm y hd => ?_⟩
        · rw [kv_len hk]; simpa using l
        · rw [kv_len hk]; simpa using l
        · obtain ⟨rfl, k2, v2, e1, rfl⟩ := y
          obtain ⟨k3, v3, e2, rfl⟩ := kv_get hk hd
          rw [e1] at e2
          cases e2
          exact ⟨F', kd_dq _, .inl ⟨rfl, rfl⟩⟩
      | _ => cases ed
    · exact q'.elim
  · split at q'
    · exact ⟨q'.1, m _ _ q'.2⟩
    · exact q'.elim
end
end DL

/-! The D layer, part 10: is of bools, three comparisons, slices, zip. -/
namespace DL
open PySem PySem.Spec PyProof.Rows L2
/-! ### is of bools -/
def gIsB : G2 := fun d1 d2 P => match d1, d2 with
  | .bool a, .bool b => P (.bool (a == b))
  | _, _ => False
def gNotB : G2 := fun d1 d2 P => match d1, d2 with
  | .bool a, .bool b => P (.bool (a != b))
  | _, _ => False
theorem os_isB {K : PySem.W.Frag} : OpS K rIsB gIsB := ⟨fun F H x y d1 d2 Q sm p1 p2 q => by
  unfold gIsB at q
  split at q
  · rename_i a b
    refine ⟨a, b, dp_bool p1, dp_bool p2, ?_⟩
    have e : decide (a = b) = (a == b) := by cases a <;> cases b <;> rfl
    rw [e]
    exact q _ (.bl _)
  · exact q.elim, fun d1 d2 P P' m q => by
  unfold gIsB at q ⊢
  split at q
  · exact m _ q
  · exact q.elim⟩
theorem os_notB {K : PySem.W.Frag} : OpS K rNotB gNotB := ⟨fun F H x y d1 d2 Q sm p1 p2 q => by
  unfold gNotB at q
  split at q
  · rename_i a b
    refine ⟨a, b, dp_bool p1, dp_bool p2, ?_⟩
    have e : (!decide (a = b)) = (a != b) := by cases a <;> cases b <;> rfl
    rw [e]
    exact q _ (.bl _)
  · exact q.elim, fun d1 d2 P P' m q => by
  unfold gNotB at q ⊢
  split at q
  · exact m _ q
  · exact q.elim⟩
@[simp ↓] theorem s_isB {a b : Bool} {P : D → Prop} : gIsB (.bool a) (.bool b) P = P (.bool (a == b)) := rfl
@[simp ↓] theorem s_notB {a b : Bool} {P : D → Prop} : gNotB (.bool a) (.bool b) P = P (.bool (a != b)) := rfl
section
variable {X : Cx} {a b c d : Expr} {pos : Pos}
/-! ### a op b op c op d -/
def tChain3 (r r' r'' : R2) (ta tb tc td : TE) : TE := fun σ H Q => ta σ H fun x H1 => tb σ H1 fun y H2 => r x y H2 fun z H3 => ∃ k, z = .bl k ∧
  (if k = true then tc σ H3 fun u H4 => r' y u H4 fun z' H5 => ∃ k', z' = .bl k' ∧ (if k' = true then td σ H5 fun v H6 => r'' u v H6 Q else Q (.bl false) H5) else Q (.bl false) H3)
theorem pe_chain3 {op op' op'' : CmpOp} {r r' r'' : R2} {ta tb tc td : TE} (ho : OpR X (compareOp op) r) (ho' : OpR X (compareOp op') r') (ho'' : OpR X (compareOp op'') r'') (ha : PE X a ta) (hb : PE X b tb) (hc : PE X c tc) (hd : PE X d td)
    (hm : lastMarks [op, op', op''] [b, c, d] = false := by with_unfolding_all rfl) : PE X (.Compare a [op, op', op''] [b, c, d] pos) (tChain3 r r' r'' ta tb tc td) := by
  refine ⟨fun pins s σ H Q I h => ?_⟩
  refine Compare_chain (thn (ha.run pins s σ H _ I h) fun v s1 ⟨x, H1, I1, r1, q1⟩ => chain_link (thn (hb.run pins s1 σ H1 _ I1 q1) fun u s2 ⟨y, H2, I2, r2, q2⟩ =>
    thn (ho pins s2 σ H2 x y v u _ I2 r1 r2 q2) fun dd s3 ⟨z, H3, I3, r3, k, e, q3⟩ => ?_)) hm
  subst e
  cases r3
  refine wpAny_truthy_bool ?_
  cases k with
  | false => exact ite_ff ⟨.bl false, H3, I3, rfl, q3⟩
  | true =>
    refine ite_tt (chain_link (thn (hc.run pins s3 σ H3 _ I3 q3) fun u' s4 ⟨y', H4, I4, r4, q4⟩ => thn (ho' pins s4 σ H4 y y' u u' _ I4 r2 r4 q4) fun dd s5 ⟨z, H5, I5, r5, k, e, q5⟩ => ?_))
    subst e
    cases r5
    refine wpAny_truthy_bool ?_
    cases k with
    | false => exact ite_ff ⟨.bl false, H5, I5, rfl, q5⟩
    | true => exact ite_tt (chain_last (thn (hd.run pins s5 σ H5 _ I5 q5) fun w' s6 ⟨z', H6, I6, r6, q6⟩ => ho'' pins s6 σ H6 y' z' u' w' Q I6 r4 r6 q6))
def dChain3 (g g' g'' : G2) (f h k m : DT) : DT := fun e Q => f e fun d1 e1 => h e1 fun d2 e2 => g d1 d2 fun z => match z with
  | .bool true => k e2 fun d3 e3 => g' d2 d3 fun z' => match z' with
    | .bool true => m e3 fun d4 e4 => g'' d3 d4 fun d => Q d e4
    | .bool false => Q (.bool false) e3
    | _ => False
  | .bool false => Q (.bool false) e2
  | _ => False
theorem de_chain3 {op op' op'' : CmpOp} {r r' r'' : R2} {g g' g'' : G2} {f h k m : DT} (ho : OpR X (compareOp op) r) (ho' : OpR X (compareOp op') r') (ho'' : OpR X (compareOp op'') r'') (hg : OpS X.K r g) (hg' : OpS X.K r' g') (hg'' : OpD X.K r'' g'') (ha : DE X a f) (hb : DE X b h) (hc : DE X c k) (hd : DE X d m)
    (hm : lastMarks [op, op', op''] [b, c, d] = false := by with_unfolding_all rfl) : DE X (.Compare a [op, op', op''] [b, c, d] pos) (dChain3 g g' g'' f h k m) := by
  refine ⟨fun w => PE.imp (pe_chain3 ho ho' ho'' (ha.run w) (hb.run w) (hc.run w) (hd.run w) hm) ?_, fun e Q Q' mm q => ?_⟩
  · rintro σ H Q ⟨F, ad, e, R, q⟩
    refine ⟨F, ad, e, R, ha.mono _ _ _ (fun d1 e1 q1 F1 ad1 H1 v1 s1 R1 p1 => ?_) q⟩
    refine ⟨F1, ad1, e1, R1, hb.mono _ _ _ (fun d2 e2 q2 F2 ad2 H2 v2 s2 R2 p2 => ?_) q1⟩
    refine hg.run F2 H2 v1 v2 d1 d2 _ R2.sub (dp_mono s2 _ _ p1) p2 (hg.mono _ _ _ _ (fun z q3 v p3 => ?_) q2)
    cases z with
    | bool kk =>
      cases kk with
      | true =>
        refine ⟨true, dp_bool p3, ?_⟩
        rw [if_pos rfl]
        refine ⟨F2, ad2, e2, R2, hc.mono _ _ _ (fun d3 e3 q4 F3 ad3 H3 v3 s3 R3 p4 => ?_) q3⟩
        refine hg'.run F3 H3 v2 v3 d2 d3 _ R3.sub (dp_mono s3 _ _ p2) p4 (hg'.mono _ _ _ _ (fun z' q5 v' p5 => ?_) q4)
        cases z' with
        | bool kk =>
          cases kk with
          | true =>
            refine ⟨true, dp_bool p5, ?_⟩
            rw [if_pos rfl]
            refine ⟨F3, ad3, e3, R3, hd.mono _ _ _ (fun d4 e4 q6 F4 ad4 H4 v4 s4 R4 p6 => ?_) q5⟩
            refine hg''.run F4 H4 v3 v4 d3 d4 Q R4.sub (dp_mono s4 _ _ p4) p6 (hg''.mono _ _ _ _ (fun dd q7 v5 F5 H5 gr p7 => ?_) q6)
            exact q7 F5 ad4 H5 v5 (((s1.trans s2).trans (s3.trans s4)).trans (gr.same R4.sub)) (gr.rel R4) p7
          | false =>
            refine ⟨false, dp_bool p5, ?_⟩
            rw [if_neg Bool.false_ne_true]
            exact q5 F3 ad3 H3 _ ((s1.trans s2).trans s3) R3 (.bl false)
        | _ => exact q5.elim
      | false =>
        refine ⟨false, dp_bool p3, ?_⟩
        rw [if_neg Bool.false_ne_true]
        exact q3 F2 ad2 H2 _ (s1.trans s2) R2 (.bl false)
    | _ => exact q3.elim
  · refine ha.mono _ _ _ (fun d1 e1 q1 => hb.mono _ _ _ (fun d2 e2 q2 => hg.mono _ _ _ _ (fun z q3 => ?_) q2) q1) q
    cases z with
    | bool kk =>
      cases kk with
      | true =>
        refine hc.mono _ _ _ (fun d3 e3 q4 => hg'.mono _ _ _ _ (fun z' q5 => ?_) q4) q3
        cases z' with
        | bool kk =>
          cases kk with
          | true => exact hd.mono _ _ _ (fun d4 e4 q6 => hg''.mono _ _ _ _ (fun dd q7 => mm _ _ q7) q6) q5
          | false => exact mm _ _ q5
        | _ => exact q5.elim
      | false => exact mm _ _ q3
    | _ => exact q3.elim
end
/-! ### slices -/
def cutD (ds : List D) (lo hi : Option Int) : List D := (ds.drop (HT.sIx ds.length 0 lo)).take (HT.sIx ds.length ds.length hi - HT.sIx ds.length 0 lo)
section
variable {X : Cx} {a b : Expr} {lo hi : Option Expr} {f h : DT} {fl fh : DO} {pos p2 p1 p3 pp : Pos}
def dONo : DO := fun e Q => Q none e
def dOI (f : DT) : DO := fun e Q => f e fun d e' => match d with
  | .int i => Q (some i) e'
  | _ => False
theorem do_no : DOp X none dONo := ⟨fun w => ⟨fun p s σ H Q I ⟨F, ad, e, R, q⟩ => po_none.run p s σ H Q I (q F ad H (Same.refl F) R)⟩, fun e Q Q' m q => m _ _ q⟩
theorem do_some (ha : DE X a f) : DOp X (some a) (dOI f) := by
  refine ⟨fun w => ⟨fun p s σ H Q I q => (po_some (ha.run w)).run p s σ H Q I ?_⟩, fun e Q Q' m q => ha.mono _ _ _ (fun d e1 q1 => ?_) q⟩
  · obtain ⟨F, ad, e, R, q⟩ := q
    refine ⟨F, ad, e, R, ha.mono _ _ _ (fun d e1 q1 F1 ad1 H1 v s1 R1 p1 => ?_) q⟩
    cases d with
    | int i => exact ⟨i, dp_int p1, q1 F1 ad1 H1 s1 R1⟩
    | _ => exact q1.elim
  · cases d with
    | int i => exact m _ _ q1
    | _ => exact q1.elim
def dSl (f : DT) (fl fh : DO) : DT := fun e Q => f e fun d e1 => fl e1 fun l e2 => fh e2 fun u e3 => match d with
  | .list ds => Q (.list (cutD ds l u)) e3
  | .tuple ds => ¬ (HT.sIx ds.length 0 l = 0 ∧ HT.sIx ds.length ds.length u = ds.length) ∧ Q (.tuple (cutD ds l u)) e3
  | _ => False
theorem de_slice (ha : DE X a f) (hl : DOp X lo fl) (hh : DOp X hi fh) : DE X (.Subscript a (.Slice lo hi none p2) pos) (dSl f fl fh) := by
  refine ⟨fun w => PE.imp (pe_slice (SlR.or sl_list sl_tup) (ha.run w) (hl.run w) (hh.run w)) ?_, fun e Q Q' m q => ha.mono _ _ _ (fun d e1 q1 => hl.mono _ _ _ (fun l e2 q2 => hh.mono _ _ _ (fun u e3 q3 => ?_) q2) q1) q⟩
  · rintro σ H Q ⟨F, ad, e, R, q⟩
    refine ⟨F, ad, e, R, ha.mono _ _ _ (fun d e1 q1 F1 ad1 H1 v s1 R1 p1 => ?_) q⟩
    refine ⟨F1, ad1, e1, R1, hl.mono _ _ _ (fun l e2 q2 F2 ad2 H2 s2 R2 => ?_) q1⟩
    refine ⟨F2, ad2, e2, R2, hh.mono _ _ _ (fun u e3 q3 F3 ad3 H3 s3 R3 => ?_) q2⟩
    cases d with
    | list ds =>
      obtain ⟨p, xs, rfl, h1, h2⟩ := dp_list (dp_mono (s2.trans s3) _ _ p1)
      refine .inl ⟨p, xs, rfl, R3.sub.seq h1, fun pn hp => ?_⟩
      have sm := same_upd (o := .lst (cutV xs l u)) R3.sub hp
      exact q3 _ ad3 _ _ ((s1.trans (s2.trans s3)).trans (same_upd R3.sub hp)) (R3.grow hp) (.lst (Rd.of upd_same) (dpAll_mono sm _ _ (dpAll_cut h2 l u)))
    | tuple ds =>
      obtain ⟨p, xs, rfl, h1, h2⟩ := dp_tup (dp_mono (s2.trans s3) _ _ p1)
      have hlen := dpAll_len h2
      refine .inr ⟨p, xs, rfl, sqT_mono R3.sub h1, by rw [hlen]; exact q3.1, fun pn hp => ?_⟩
      have sm := same_upd (o := .tup (cutV xs l u)) R3.sub hp
      exact q3.2 _ ad3 _ _ ((s1.trans (s2.trans s3)).trans (same_upd R3.sub hp)) (R3.grow hp) (.tup (SqT.of upd_same) (dpAll_mono sm _ _ (dpAll_cut h2 l u)))
    | _ => exact q3.elim
  · cases d with
    | list ds => exact m _ _ q3
    | tuple ds => exact ⟨q3.1, m _ _ q3.2⟩
    | _ => exact q3.elim
/-- .. of a list of one's own, which stays so -/
def dSlN (i : Nat) (fl fh : DO) : DT := fun e Q => (∃ ds, slLst e[i]? = some ds) ∧ fl e fun l e2 => fh e2 fun u e3 => match slLst e3[i]? with
  | some ds => Q (.list (cutD ds l u)) e3
  | none => False
theorem de_sliceN (i : Nat) (ho : PE X a (tVar i)) (hl : DOp X lo fl) (hh : DOp X hi fh) : DE X (.Subscript a (.Slice lo hi none p2) pos) (dSlN i fl fh) := by
  refine ⟨fun w => PE.imp (pe_slice (SlR.or sl_list sl_tup) ho (hl.run w) (hh.run w)) ?_, fun e Q Q' m q => ⟨q.1, hl.mono _ _ _ (fun l e2 q2 => hh.mono _ _ _ (fun u e3 q3 => ?_) q2) q.2⟩⟩
  · rintro σ H Q ⟨F, ad, e, R, ⟨ds0, q0⟩, q⟩
    obtain ⟨p, xs0, h0, _⟩ := R.ownedL q0
    refine ⟨_, h0, F, ad, e, R, hl.mono _ _ _ (fun l e2 q2 F2 ad2 H2 s2 R2 => ?_) q⟩
    refine ⟨F2, ad2, e2, R2, hh.mono _ _ _ (fun u e3 q3 F3 ad3 H3 s3 R3 => ?_) q2⟩
    split at q3
    · rename_i ds hds
      obtain ⟨p3, xs, h3, h4, h5, _⟩ := R3.ownedL hds
      rw [h0] at h3
      cases h3
      refine .inl ⟨p, xs, rfl, SqL.of h4, fun pn hp => ?_⟩
      have sm := same_upd (o := .lst (cutV xs l u)) R3.sub hp
      exact q3 _ ad3 _ _ ((s2.trans s3).trans (same_upd R3.sub hp)) (R3.grow hp) (.lst (Rd.of upd_same) (dpAll_mono sm _ _ (dpAll_cut h5 l u)))
    · exact q3.elim
  · split at q3
    · exact m _ _ q3
    · exact q3.elim
/-- xs[::-1], a list -/
def dRev (f : DT) : DT := fun e Q => f e fun d e' => match d with
  | .list ds => Q (.list ds.reverse) e'
  | _ => False
theorem de_rev {k : Nat} (ha : DE X a f) : DE X (.Subscript a (.Slice none none (some (.UnaryOp .USub (.Constant (.int 1) k p1) p2)) p3) pos) (dRev f) := by
  refine ⟨fun w => PE.imp (pe_revL (ha.run w)) ?_, fun e Q Q' m q => ha.mono _ _ _ (fun d e1 q1 => ?_) q⟩
  · rintro σ H Q ⟨F, ad, e, R, q⟩
    refine ⟨F, ad, e, R, ha.mono _ _ _ (fun d e1 q1 F1 ad1 H1 v s1 R1 pq => ?_) q⟩
    cases d with
    | list ds =>
      obtain ⟨p, xs, rfl, h1, h2⟩ := dp_list pq
      refine ⟨p, xs, rfl, R1.sub.seq h1, fun pn hp => ?_⟩
      have sm := same_upd (o := .lst xs.reverse) R1.sub hp
      exact q1 _ ad1 _ _ (s1.trans (same_upd R1.sub hp)) (R1.grow hp) (.lst (Rd.of upd_same) (dpAll_mono sm _ _ (dpAll_rev h2)))
    | _ => exact q1.elim
  · cases d with
    | list ds => exact m _ _ q1
    | _ => exact q1.elim
/-! ### zip -/
def zipD : List D → List D → List D
  | x :: xs, y :: ys => .tuple [x, y] :: zipD xs ys
  | _, _ => []
theorem zipD_len : ∀ (xs ys : List D), (zipD xs ys).length = min xs.length ys.length
  | [], _ => by simp [zipD]
  | _ :: _, [] => by simp [zipD]
  | _ :: xs, _ :: ys => by
    show (zipD xs ys).length + 1 = _
    rw [zipD_len xs ys, List.length_cons, List.length_cons]
    omega
theorem zipD_get : ∀ {xs ys : List D} {i : Nat} {d : D}, (zipD xs ys)[i]? = some d → ∃ x y, xs[i]? = some x ∧ ys[i]? = some y ∧ d = .tuple [x, y]
  | x :: xs, y :: ys, 0, d, h => ⟨x, y, rfl, rfl, (Option.some.inj h).symm⟩
  | x :: xs, y :: ys, i + 1, d, h => zipD_get (xs := xs) (ys := ys) (i := i) h
  | [], _, _, _, h => by simp [zipD] at h
  | _ :: _, [], _, _, h => by simp [zipD] at h
def dItZ (r : DA) : DI := fun e Q => r e fun ds e' => match ds with
  | [.list xs, .list ys] => Q (zipD xs ys) e'
  | [.tuple xs, .tuple ys] => Q (zipD xs ys) e'
  | _ => False
theorem di_zip {elts : List Expr} {kk : Nat} {tpos : Pos} {r : DA} {x : Expr} (hr : DAr X [a, b] r) (hp : ∀ ta, PA X [a, b] ta → PI X (.Tuple elts kk tpos) x (RZ.iZipA X.K ta)) : DIt X (.Tuple elts kk tpos) x (dItZ r) := by
  refine ⟨fun w => PI.imp (hp _ (hr.run w)) ?_, fun e Q Q' m q => hr.mono _ _ _ (fun ds e' q' => ?_) q⟩
  · rintro σ H R ⟨F, ad, e, Rl, q⟩
    refine ⟨F, ad, e, Rl, hr.mono _ _ _ (fun ds e' q' F' ad' H' vs s' R' p => ?_) q⟩
    split at q'
    · rename_i xs ys
      match vs, p with
      | [v1, v2], .cons k1 (.cons k2 .nil) =>
        obtain ⟨p1, us, rfl, h1, h2⟩ := dp_list k1
        obtain ⟨p2, ws, rfl, h3, h4⟩ := dp_list k2
        refine ⟨p1, p2, us, ws, rfl, .inl ⟨R'.sub.seq h1, R'.sub.seq h3, q' F' ad' H' _ s' R' ⟨fun i H2 sm l => ?_, fun i H2 sm l => ?_, fun i H2 H3 x d sm y hd => ?_⟩⟩⟩
        · rw [zipD_len] at l
          have l1 : i < us.length := by rw [dpAll_len h2]; omega
          have l2 : i < ws.length := by rw [dpAll_len h4]; omega
          exact ⟨us, ws, _, _, sm.seq h1, sm.seq h3, List.getElem?_eq_getElem l1, List.getElem?_eq_getElem l2⟩
        · rw [zipD_len] at l
          refine ⟨us, ws, sm.seq h1, sm.seq h3, ?_⟩
          rw [dpAll_len h2, dpAll_len h4]
          omega
        · obtain ⟨T, x1, y1, rfl, hT, rfl, g1, g2⟩ := y
          obtain ⟨dx, dy, e1, e2, rfl⟩ := zipD_get hd
          obtain ⟨x2, z1, z2⟩ := dpAll_got h2 e1
          obtain ⟨y2, z3, z4⟩ := dpAll_got h4 e2
          have q1 := g1 us (sm.seq h1)
          have q2 := g2 ws (sm.seq h3)
          rw [z1] at q1
          rw [z3] at q2
          cases q1
          cases q2
          have s2 := same_upd (o := .tup [x1, y1]) sm hT
          exact ⟨upd F' T (.tup [x1, y1]), .tup (SqT.of upd_same) (.cons (dp_mono s2 _ _ z2) (.cons (dp_mono s2 _ _ z4) .nil)), .inr ⟨T, _, hT, rfl, rfl⟩⟩
    · rename_i xs ys
      match vs, p with
      | [v1, v2], .cons k1 (.cons k2 .nil) =>
        obtain ⟨p1, us, rfl, h1, h2⟩ := dp_tup k1
        obtain ⟨p2, ws, rfl, h3, h4⟩ := dp_tup k2
        refine ⟨p1, p2, us, ws, rfl, .inr ⟨sqT_mono R'.sub h1, sqT_mono R'.sub h3, q' F' ad' H' _ s' R' ⟨fun i H2 sm l => ?_, fun i H2 sm l => ?_, fun i H2 H3 x d sm y hd => ?_⟩⟩⟩
        · rw [zipD_len] at l
          have l1 : i < us.length := by rw [dpAll_len h2]; omega
          have l2 : i < ws.length := by rw [dpAll_len h4]; omega
          exact ⟨us, ws, _, _, sqT_mono sm h1, sqT_mono sm h3, List.getElem?_eq_getElem l1, List.getElem?_eq_getElem l2⟩
        · rw [zipD_len] at l
          refine ⟨us, ws, sqT_mono sm h1, sqT_mono sm h3, ?_⟩
          rw [dpAll_len h2, dpAll_len h4]
          omega
        · obtain ⟨T, x1, y1, rfl, hT, rfl, g1, g2⟩ := y
          obtain ⟨dx, dy, e1, e2, rfl⟩ := zipD_get hd
          obtain ⟨x2, z1, z2⟩ := dpAll_got h2 e1
          obtain ⟨y2, z3, z4⟩ := dpAll_got h4 e2
          have q1 := g1 us (sqT_mono sm h1)
          have q2 := g2 ws (sqT_mono sm h3)
          rw [z1] at q1
          rw [z3] at q2
          cases q1
          cases q2
          have s2 := same_upd (o := .tup [x1, y1]) sm hT
          exact ⟨upd F' T (.tup [x1, y1]), .tup (SqT.of upd_same) (.cons (dp_mono s2 _ _ z2) (.cons (dp_mono s2 _ _ z4) .nil)), .inr ⟨T, _, hT, rfl, rfl⟩⟩
    · exact q'.elim
  · split at q'
    · exact m _ _ q'
    · exact m _ _ q'
    · exact q'.elim
end
end DL

/-! The D layer, part 11: pairs of which the first is a thing of one's own; tuples backwards. -/
namespace DL
open PySem PySem.Spec PyProof.Rows L2
section
variable {X : Cx} {a b c : Expr} {h k : DT} {f : DF} {st : Stmt}
theorem pe_any (hb : DE X b h) : PE X b (fun σ H Q => ∃ w' : Wd, EL X.K w' h σ H Q) := ⟨fun p s σ H Q I ⟨w', q⟩ => (hb.run w').run p s σ H Q I q⟩
/-- x, y = {..}, e -/
def dParF (i j : Nat) (f : DF) (h : DT) : DSt := fun D e => f e fun o e1 => h e1 fun d e2 => D.nx ((e2.set i (.mu o)).set j (.im d))
theorem ds_parF {i j : Nat} (ha : DFe X a f) (hb : DE X b h) (hp : ∀ ta, PA X [a, b] ta → PS X st (tPar i j ta)) (h1 : starEach (a :: [b]) X.env = (false, eval a X.env) :: starEach [b] X.env := by rfl) (h2 : starEach (b :: []) X.env = (false, eval b X.env) :: starEach [] X.env := by rfl) : DS X st (dParF i j f h) := by
  refine ⟨fun w => PS.imp (hp _ (pa_cons (ha.run w) (pa_cons (pe_any hb) pa_nil h2) h1)) ?_, fun A B e l q => ha.mono _ _ _ (fun o e1 q1 => hb.mono _ _ _ (fun d e2 q2 => l.nx _ q2) q1) q⟩
  rintro D σ H ⟨F, ad, e, R, q⟩
  refine ⟨F, ad, e, R, ha.mono _ _ _ (fun o e1 q1 F1 ad1 H1 l ho s1 R1 z fr p => ?_) q⟩
  refine ⟨here w F1 ad1 H1 e1, F1, ad1, e1, R1.rebase, hb.mono _ _ _ (fun d e2 q2 F2 ad2 H2 v s2 R2 p2 => ?_) q1⟩
  obtain ⟨z2, fr2⟩ := R1.keeps R2 z fr
  have B := ((R1.back R2).setMu (i := i) z2 fr2 (ow_mono R2.old p)).set (i := j) p2
  exact ⟨_, _, rfl, q2 F2 _ _ H2 B⟩
/-- x, y, z = {..}, e, g -/
def dParF3 (i j l : Nat) (f : DF) (h k : DT) : DSt := fun D e => f e fun o e1 => h e1 fun d e2 => k e2 fun d' e3 => D.nx (((e3.set i (.mu o)).set j (.im d)).set l (.im d'))
theorem ds_parF3 {i j l : Nat} (ha : DFe X a f) (hb : DE X b h) (hc : DE X c k) (hp : ∀ ta, PA X [a, b, c] ta → PS X st (tPar3 i j l ta)) (h1 : starEach (a :: [b, c]) X.env = (false, eval a X.env) :: starEach [b, c] X.env := by rfl) (h2 : starEach (b :: [c]) X.env = (false, eval b X.env) :: starEach [c] X.env := by rfl) (h3 : starEach (c :: []) X.env = (false, eval c X.env) :: starEach [] X.env := by rfl) : DS X st (dParF3 i j l f h k) := by
  refine ⟨fun w => PS.imp (hp _ (pa_cons (ha.run w) (pa_cons (pe_any hb) (pa_cons (pe_any hc) pa_nil h3) h2) h1)) ?_, fun A B e l q => ha.mono _ _ _ (fun o e1 q1 => hb.mono _ _ _ (fun d e2 q2 => hc.mono _ _ _ (fun d' e3 q3 => l.nx _ q3) q2) q1) q⟩
  rintro D σ H ⟨F, ad, e, R, q⟩
  refine ⟨F, ad, e, R, ha.mono _ _ _ (fun o e1 q1 F1 ad1 H1 al ho s1 R1 z fr p => ?_) q⟩
  refine ⟨here w F1 ad1 H1 e1, F1, ad1, e1, R1.rebase, hb.mono _ _ _ (fun d e2 q2 F2 ad2 H2 v s2 R2 p2 => ?_) q1⟩
  refine ⟨here w F1 ad1 H1 e1, F2, ad2, e2, R2, hc.mono _ _ _ (fun d' e3 q3 F3 ad3 H3 v3 s3 R3 p3 => ?_) q2⟩
  obtain ⟨z2, fr2⟩ := R1.keeps R3 z fr
  have B := (((R1.back R3).setMu (i := i) z2 fr2 (ow_mono R3.old p)).set (i := j) (dp_mono s3 _ _ p2)).set (i := l) p3
  exact ⟨_, _, _, rfl, q3 F3 _ _ H3 B⟩
end
section
variable {e : Env} {Q : D → Env → Prop} {S : List D → Env → Prop} {SO : Ow → Env → Prop} {f h k m : DT} {fl fh : DO} {r : DA} {D0 : DEnds} {g g' g'' : G2} {i j l : Nat} {rf : DF}
@[simp ↓] theorem s_dnew : dDNew e SO = SO (.dct []) e := rfl
@[simp ↓] theorem s_dlM {ds : List (Key × D)} : slDct (some (.mu (.dct ds))) = some ds := rfl
@[simp ↓] theorem s_dlB {ds : List (Key × D)} : slDct (some (.bo (.dct ds))) = some ds := rfl
@[simp ↓] theorem s_keyI {x : Int} : keyOf (.int x) = some (.inl x) := rfl
@[simp ↓] theorem s_keyS {x : Str} : keyOf (.str x) = some (.inr x) := rfl
@[simp ↓] theorem s_dput : dDPut i k f D0 e = f e fun d e1 => (ge i e1 fun z => ∃ ds, slDct z = some ds) ∧ k e1 fun dk e2 => ge i e2 fun z => match keyOf dk, slDct z with
  | some kk, some ds => ds.length < sizeLine ∧ ∀ s, slPut z (.dct (putD ds kk d)) = some s → st i s e2 D0.nx
  | _, _ => False := rfl
@[simp ↓] theorem s_dget2 : dDGet2 i k f e Q = ((ge i e fun z => ∃ ds, slDct z = some ds) ∧ k e fun dk e1 => (ge i e1 fun z => ∃ ds, slDct z = some ds) ∧ f e1 fun dz e2 => ge i e2 fun z => match keyOf dk, slDct z with
  | some kk, some ds => Q ((valD ds kk).getD dz) e2
  | _, _ => False) := rfl
@[simp ↓] theorem s_itK : dItK f e S = f e fun d e' => match d with
  | .dict kvs => (kvs.all fun p => (keyOf p.1).isSome) = true ∧ S (kvs.map (·.1)) e'
  | _ => False := rfl
@[simp ↓] theorem s_chain3 : dChain3 g g' g'' f h k m e Q = f e fun d1 e1 => h e1 fun d2 e2 => g d1 d2 fun z => match z with
  | .bool true => k e2 fun d3 e3 => g' d2 d3 fun z' => match z' with
    | .bool true => m e3 fun d4 e4 => g'' d3 d4 fun d => Q d e4
    | .bool false => Q (.bool false) e3
    | _ => False
  | .bool false => Q (.bool false) e2
  | _ => False := rfl
@[simp ↓] theorem s_ono {T : Option Int → Env → Prop} : dONo e T = T none e := rfl
@[simp ↓] theorem s_oi {T : Option Int → Env → Prop} : dOI f e T = f e fun d e' => match d with
  | .int i => T (some i) e'
  | _ => False := rfl
@[simp ↓] theorem s_sl : dSl f fl fh e Q = f e fun d e1 => fl e1 fun l e2 => fh e2 fun u e3 => match d with
  | .list ds => Q (.list (cutD ds l u)) e3
  | .tuple ds => ¬ (HT.sIx ds.length 0 l = 0 ∧ HT.sIx ds.length ds.length u = ds.length) ∧ Q (.tuple (cutD ds l u)) e3
  | _ => False := rfl
@[simp ↓] theorem s_slN : dSlN i fl fh e Q = ((ge i e fun z => ∃ ds, slLst z = some ds) ∧ fl e fun l e2 => fh e2 fun u e3 => ge i e3 fun z => match slLst z with
  | some ds => Q (.list (cutD ds l u)) e3
  | none => False) := rfl
@[simp ↓] theorem s_rev : dRev f e Q = f e fun d e' => match d with
  | .list ds => Q (.list ds.reverse) e'
  | _ => False := rfl
@[simp ↓] theorem s_itZ : dItZ r e S = r e fun ds e' => match ds with
  | [.list xs, .list ys] => S (zipD xs ys) e'
  | [.tuple xs, .tuple ys] => S (zipD xs ys) e'
  | _ => False := rfl
@[simp ↓] theorem s_parF : dParF i j rf h D0 e = rf e fun o e1 => h e1 fun d e2 => st i (.mu o) e2 fun e3 => st j (.im d) e3 D0.nx := rfl
@[simp ↓] theorem s_parF3 : dParF3 i j l rf h k D0 e = rf e fun o e1 => h e1 fun d e2 => k e2 fun d' e3 => st i (.mu o) e3 fun e4 => st j (.im d) e4 fun e5 => st l (.im d') e5 D0.nx := rfl
end
end DL

/-! The D layer, part 12: tuples backwards. -/
namespace DL
open PySem PySem.Spec PyProof.Rows L2
section
variable {prog : Program} {w : World} {A : Around} {E : Value → Shared → Prop} {s : Shared}
theorem adjust_rev (n : Nat) : Builtin.Slice.sliceAdjust none none (-1) (n : Int) = ((n : Int) - 1, -1) := by
  unfold Builtin.Slice.sliceAdjust
  rfl
theorem places_rev (n : Nat) : Builtin.Slice.slicePlaces ((n : Int) - 1) (-1) (-1) = n := by
  unfold Builtin.Slice.slicePlaces
  have h1 : ¬ ((-1 : Int) > 0) := by omega
  simp only [h1, if_false]
  split <;> simp <;> omega
theorem sliceApplied_rev {sl : Addr} {vl vu vs : Value} {n : Nat} {Q : Int × Int × Nat → Shared → Prop} (hs : s.heap.IsSliceOf sl vl vu vs) (pl : IsPart vl none) (pu : IsPart vu none) (ps : IsPart vs (some (-1)))
    (h : Q ((n : Int) - 1, -1, n) s) : wpAny (model prog w) A (Builtin.Slice.sliceApplied (.ref sl) (pure (n : Int))) Q E s := by
  obtain ⟨os, hos, hcs, hds⟩ := id hs
  unfold Builtin.Slice.sliceApplied Builtin.Slice.sliceFields
  refine wpAny_bind (wpAny_bind (wpAny_field hos hds (x := vl) rfl (wpAny_bind (wpAny_field hos hds (x := vu) rfl (wpAny_bind (wpAny_field hos hds (x := vs) rfl (wpAny_pure ?_)))))))
  refine wpAny_bind (HT.slicePart_ ps ?_)
  show wpAny _ _ (if ((-1 : Int) == 0) = true then _ else _) _ _ s
  rw [if_neg (by decide)]
  refine wpAny_bind (HT.slicePart_ pl (wpAny_bind (HT.slicePart_ pu (wpAny_bind (wpAny_pure ?_)))))
  show wpAny _ _ (match Builtin.Slice.sliceAdjust none none (-1) (n : Int) with | (lo, hi) => pure (lo, (-1 : Int), Builtin.Slice.slicePlaces lo hi (-1))) _ _ s
  rw [adjust_rev n]
  show wpAny _ _ (pure ((n : Int) - 1, (-1 : Int), Builtin.Slice.slicePlaces ((n : Int) - 1) (-1) (-1))) _ _ s
  rw [places_rev]
  exact wpAny_pure h
theorem pick_rev (xs : Array Value) : ((List.range xs.size).filterMap fun (m : Nat) => xs[((xs.size : Int) - 1 + (m : Int) * (-1)).toNat]?).toArray = xs.toList.reverse.toArray := by
  have e : (List.range xs.size).filterMap (fun (m : Nat) => xs[((xs.size : Int) - 1 + (m : Int) * (-1)).toNat]?) = ((List.range xs.size).map fun k => xs.size - 1 - k).filterMap (xs[·]?) := by
    rw [List.filterMap_map]
    refine congrArg (fun f => (List.range xs.size).filterMap f) (funext fun m => ?_)
    show xs[((xs.size : Int) - 1 + (m : Int) * (-1)).toNat]? = xs[xs.size - 1 - m]?
    rw [show ((xs.size : Int) - 1 + (m : Int) * (-1)).toNat = xs.size - 1 - m by omega]
  rw [e, PySem.W.krv_range, List.filterMap_reverse, PySem.W.krv_all]
theorem getItem_tuple_rev {t sl : Addr} {items : Array Value} {vl vu vs : Value} {Q : Value → Shared → Prop} (ht : IsTup s.heap t items) (hs : s.heap.IsSliceOf sl vl vu vs) (pl : IsPart vl none) (pu : IsPart vu none) (ps : IsPart vs (some (-1)))
    (h : Q (.ref s.heap.objs.size) { s with heap := s.heap.push { cls := .type "tuple", data := .seq items.toList.reverse.toArray } })
    (hsz : items.size ≤ sizeLine) : wpAny (model prog w) A (getItem (.ref t) (.ref sl)) Q E s := by
  have htake : sizeOk (.seq items.toList.reverse.toArray) := by
    show items.toList.reverse.toArray.size ≤ sizeLine
    rw [List.size_toArray, List.length_reverse, Array.length_toList]
    exact hsz
  obtain ⟨os, hos, hcs, hds⟩ := id hs
  have hTs : s.TypeIs (.ref sl) "slice" := ⟨os, hos, hcs⟩
  unfold getItem
  try with_reducible refine wpAny_holding ?_
  first | refine wpAny_bind (wpAny_pure ?_) | skip
  refine wpAny_bind (wpAny_sequenceKey ht.typeIs (by decide) ?_)
  refine wpAny_bind (wpAny_callSpecial?_slot (name := Str.ofString "__getitem__") ht.typeIs PyProof.Rows.slot_tuple_getitem
    (wpAny_call_entry PyProof.Rows.slot_tuple_getitem ht.typeIs PyProof.Rows.entry_tuple_getitem ?_ (PyProof.Rows.args_tuple_getitem _ _)))
  show wpAny _ _ (Builtin.Tuple.tupleItemsOf (.ref t) >>= _) _ _ s
  refine wpAny_bind (tupleItemsOf_ ht ?_)
  refine wpAny_bind (wpAny_typeOf hTs ?_)
  rw [if_pos (by decide)]
  refine wpAny_bind (sliceApplied_rev hs pl pu ps ?_)
  show wpAny _ _ (if (((items.size : Int) - 1) == 0 && (-1 : Int) == 1 && items.size == items.size) = true then _ else _) _ _ s
  rw [if_neg (by simp), pick_rev]
  first
    | exact wpAny_bind (m := Builtin.Tuple.tupleExact _) (wpAny_newObj_type (wpAny_pure ⟨_, rfl, wpAny_pure h⟩) htake)
    | exact wpAny_bind (m := Builtin.Tuple.tupleExact _) (wpAny_newObj_type (wpAny_bind (wpAny_pure (wpAny_pure ⟨_, rfl, wpAny_pure h⟩))) htake)
    | exact wpAny_bind (wpAny_bind (m := Builtin.Tuple.tupleExact _) (wpAny_newObj_type (wpAny_pure (wpAny_pure ⟨_, rfl, wpAny_pure h⟩)) htake))
    | exact wpAny_bind (wpAny_bind (m := Builtin.Tuple.tupleExact _) (wpAny_newObj_type (wpAny_pure ⟨_, rfl, wpAny_pure h⟩) htake))
end
section
variable {X : Cx} {e : Expr} {te : TE} {k : Nat} {p1 p2 p3 pos : Pos}
/-- xs[::-1], a list or a tuple -/
def tRevA (K : PySem.W.Frag) (te : TE) : TE := fun σ H Q => te σ H fun x H1 => ∃ a xs, x = .ref a ∧ ((SqL K H1 a xs ∧ ∀ p, H1 p = none → Q (.ref p) (upd H1 p (.lst xs.reverse))) ∨ (SqT K H1 a xs ∧ ∀ p, H1 p = none → Q (.ref p) (upd H1 p (.tup xs.reverse))))
theorem pe_revA (he : PE X e te) : PE X (.Subscript e (.Slice none none (some (.UnaryOp .USub (.Constant (.int 1) k p1) p2)) p3) pos) (tRevA X.K te) := by
  refine ⟨fun pins s σ H Q I h => ?_⟩
  refine Subscript_ (thn (he.run pins s σ H _ I h) fun v s1 ⟨x, H1, I1, r1, q1⟩ => ?_)
  obtain ⟨a, xs, ex, q1⟩ := q1
  subst ex
  cases r1
  have hst : PO X (some (.UnaryOp .USub (.Constant (.int 1) k p1) p2)) (tPart (tUn (rU fun i => .int (-i)) (tC (.int 1)))) := po_some (pe_un un_neg pe_int)
  refine wpAny_Slice (thn (po_none.run pins s1 σ H1 (fun o H2 => o = none ∧ H2 = H1) I1 ⟨rfl, rfl⟩) fun vl s2 ⟨l, H2, I2, pl, el, e2⟩ => ?_)
  subst el e2
  refine thn (po_none.run pins s2 σ H2 (fun o H3 => o = none ∧ H3 = H2) I2 ⟨rfl, rfl⟩) fun vu s3 ⟨u, H3, I3, pu, eu, e3⟩ => ?_
  subst eu e3
  refine thn (hst.run pins s3 σ H3 (fun o H4 => o = some (-1) ∧ H4 = H3) I3 ⟨1, rfl, -1, rfl, rfl, rfl⟩) fun vs s4 ⟨o, H4, I4, ps, eo, e4⟩ => ?_
  subst eo e4
  have I5 : Inv X pins σ H4 { s4 with heap := s4.heap.push { cls := .type "slice", data := .fields #[vl, vu, vs] } } := I4.kept (t' := s4.toks) fun b ob q => Heap.get?_push_of_some _ q
  show wpAny (model X.prog X.w) X.A (subscriptTail e (.Slice none none (some (.UnaryOp .USub (.Constant (.int 1) k p1) p2)) p3) (.ref a) (.ref s4.heap.objs.size)) (EP X pins σ Q) X.xe { s4 with heap := s4.heap.push { cls := .type "slice", data := .fields #[vl, vu, vs] } }
  rcases q1 with ⟨hx, q⟩ | ⟨hx, q⟩
  · obtain ⟨its, r, ht, hz⟩ := I5.list hx
    have hlen := r.length
    refine tail_any (ops := [.ref a, .ref s4.heap.objs.size]) ht.isList.typeIs (PySem.slot_list_getitem.lookup) ?_ (by with_unfolding_all rfl)
    refine wpAny_getItem_list_slice ht.isList (Heap.IsSliceOf.new _ vl vu vs) pl pu ps (by decide) ?_ (by rw [List.size_toArray]; omega)
    rw [PySem.W.krv_pick]
    refine ⟨.ref _, _, I5.laid (t' := s4.toks) (o := .lst xs.reverse) (fun b ob q => Heap.get?_push_of_some _ q) (Nat.le_refl _) ?_, rfl, q _ (I5.hok.fresh (Nat.le_refl _))⟩
    exact ⟨by rw [List.length_reverse]; exact hz, _, 0, r.reverse, Heap.get?_push_size _ rfl⟩
  · obtain ⟨its, r, ht, hz⟩ := I5.tuple hx
    have hlen := r.length
    refine tail_any (ops := [.ref a, .ref s4.heap.objs.size]) ht.typeIs (PyProof.Rows.slot_tuple_getitem.lookup) ?_ (by with_unfolding_all rfl)
    refine getItem_tuple_rev ht (Heap.IsSliceOf.new _ vl vu vs) pl pu ps ?_ (by rw [List.size_toArray]; omega)
    refine ⟨.ref _, _, I5.laid (t' := s4.toks) (o := .tup xs.reverse) (fun b ob q => Heap.get?_push_of_some _ q) (Nat.le_refl _) ?_, rfl, q _ (I5.hok.fresh (Nat.le_refl _))⟩
    exact ⟨by rw [List.length_reverse]; exact hz, _, r.reverse, IsTup.new _ _⟩
end
section
variable {X : Cx} {a : Expr} {f : DT} {k : Nat} {p1 p2 p3 pos : Pos}
/-- .. -/
def dRevA (f : DT) : DT := fun e Q => f e fun d e' => match d with
  | .list ds => Q (.list ds.reverse) e'
  | .tuple ds => Q (.tuple ds.reverse) e'
  | _ => False
theorem de_revA (ha : DE X a f) : DE X (.Subscript a (.Slice none none (some (.UnaryOp .USub (.Constant (.int 1) k p1) p2)) p3) pos) (dRevA f) := by
  refine ⟨fun w => PE.imp (pe_revA (ha.run w)) ?_, fun e Q Q' m q => ha.mono _ _ _ (fun d e1 q1 => ?_) q⟩
  · rintro σ H Q ⟨F, ad, e, R, q⟩
    refine ⟨F, ad, e, R, ha.mono _ _ _ (fun d e1 q1 F1 ad1 H1 v s1 R1 pq => ?_) q⟩
    cases d with
    | list ds =>
      obtain ⟨p, xs, rfl, h1, h2⟩ := dp_list pq
      refine ⟨p, xs, rfl, .inl ⟨R1.sub.seq h1, fun pn hp => ?_⟩⟩
      have sm := same_upd (o := .lst xs.reverse) R1.sub hp
      exact q1 _ ad1 _ _ (s1.trans (same_upd R1.sub hp)) (R1.grow hp) (.lst (Rd.of upd_same) (dpAll_mono sm _ _ (dpAll_rev h2)))
    | tuple ds =>
      obtain ⟨p, xs, rfl, h1, h2⟩ := dp_tup pq
      refine ⟨p, xs, rfl, .inr ⟨sqT_mono R1.sub h1, fun pn hp => ?_⟩⟩
      have sm := same_upd (o := .tup xs.reverse) R1.sub hp
      exact q1 _ ad1 _ _ (s1.trans (same_upd R1.sub hp)) (R1.grow hp) (.tup (SqT.of upd_same) (dpAll_mono sm _ _ (dpAll_rev h2)))
    | _ => exact q1.elim
  · cases d with
    | list ds => exact m _ _ q1
    | tuple ds => exact m _ _ q1
    | _ => exact q1.elim
@[simp ↓] theorem s_revA {e : Env} {Q : D → Env → Prop} : dRevA f e Q = f e fun d e' => match d with
  | .list ds => Q (.list ds.reverse) e'
  | .tuple ds => Q (.tuple ds.reverse) e'
  | _ => False := rfl
end
/-- nothing is promised, nothing is to be shown -/
theorem cal_none {P : Program} {w : World} {K : PySem.W.Frag} {mg : Str → Option Value} {base : Heap} {k : Nat} {x : Str} {st : Stmt} {ps : List Str} (A : DefAt K mg x st ps) : Cal P w K mg base k x (spD K fun _ _ => False) := by
  obtain ⟨f, fd, F, m, b⟩ := A.ex
  exact ⟨f, fd, ps, m, F.kp, b, ⟨fun vs H Q E ⟨_, _, _, _, h⟩ => h.elim, fun A outer s H args us vs Q E _ _ _ _ ⟨_, _, _, _, h⟩ => h.elim⟩⟩
end DL

/-! The D layer, part 13: plain helps that many laws use. -/
namespace DL
open PySem PySem.Spec PyProof.Rows L2
theorem gcd_step {l r : Int} (hl : 0 ≤ l) (hr : 0 < r) : Int.gcd r (l % r) = Int.gcd l r := by
  obtain ⟨a, rfl⟩ := Int.eq_ofNat_of_zero_le hl
  obtain ⟨b, rfl⟩ := Int.eq_ofNat_of_zero_le (Int.le_of_lt hr)
  rw [← Int.natCast_emod]
  simp only [Int.gcd_natCast_natCast]
  rw [Nat.gcd_comm a b, Nat.gcd_rec b a, Nat.gcd_comm]
/-! sizes -/
def Bd (k : Nat) (x : Int) : Prop := x.natAbs < 2 ^ k
theorem Bd.mono {k m : Nat} {x : Int} (h : Bd k x) (hm : k ≤ m) : Bd m x := Nat.lt_of_lt_of_le h (Nat.pow_le_pow_right (by decide) hm)
theorem Bd.mul {k m : Nat} {x y : Int} (h : Bd k x) (h' : Bd m y) : Bd (k + m) (x * y) := by
  unfold Bd at *
  rw [Int.natAbs_mul, Nat.pow_add]
  exact Nat.mul_lt_mul'' h h'
theorem Bd.add {k m : Nat} {x y : Int} (h : Bd k x) (h' : Bd m y) : Bd (k + m + 1) (x + y) := by
  have h1 := h.mono (show k ≤ k + m by omega)
  have h2 := h'.mono (show m ≤ k + m by omega)
  unfold Bd at *
  rw [Nat.pow_succ]
  omega
theorem Bd.neg {k : Nat} {x : Int} (h : Bd k x) : Bd k (-x) := by unfold Bd at *; omega
theorem Bd.sub {k m : Nat} {x y : Int} (h : Bd k x) (h' : Bd m y) : Bd (k + m + 1) (x - y) := by rw [Int.sub_eq_add_neg]; exact h.add h'.neg
theorem Bd.le {k : Nat} {x y : Int} (h : Bd k x) (h' : y.natAbs ≤ x.natAbs) : Bd k y := Nat.lt_of_le_of_lt h' h
theorem mulB {k m : Nat} {x y : Int} (h : Bd k x) (h' : Bd m y) (hk : k ≤ 9000) (hm : m ≤ 9000) : CMulW x y := mulW (h.mono hk) (h'.mono hm)
theorem divB {k : Nat} {x y : Int} (h0 : 0 < y) (h : Bd k y) (hk : k ≤ 9000) : CDivW x y := divW h0 (h.mono hk)
theorem bd_gcd {t b : Int} {k : Nat} (hb : 0 < b) (h : Bd k b) : Bd k (Int.gcd t b : Nat) := h.le (by
  have := Int.le_of_dvd hb (Int.gcd_dvd_right t b)
  omega)
/-! the makers -/
structure Eu (N l r u v : Int) : Prop where
  sg : (0 ≤ u ∧ v ≤ 0 ∧ u * r - v * l = N) ∨ (u ≤ 0 ∧ 0 ≤ v ∧ v * l - u * r = N)
theorem Eu.step {N l r u v : Int} (h : Eu N l r u v) (hl : 0 ≤ l) (hr : 0 < r) : Eu N r (l - l / r * r) v (u - l / r * v) := by
  have t0 : 0 ≤ l / r := Int.ediv_nonneg hl (by omega)
  generalize l / r = t at *
  rcases h.sg with ⟨h1, h2, h3⟩ | ⟨h1, h2, h3⟩
  · refine ⟨.inr ⟨h2, ?_, ?_⟩⟩
    · have := Int.mul_nonneg t0 (show 0 ≤ -v by omega)
      have e : t * -v = -(t * v) := by grind
      omega
    · grind
  · refine ⟨.inl ⟨h2, ?_, ?_⟩⟩
    · have := Int.mul_nonneg t0 h2
      omega
    · grind
theorem Eu.small {N l r u v : Int} (h : Eu N l r u v) (hl : 0 < l) (hr : 0 ≤ r) : v.natAbs ≤ N.natAbs := by
  rcases h.sg with ⟨h1, h2, h3⟩ | ⟨h1, h2, h3⟩
  · have a1 := Int.mul_nonneg h1 hr
    have a2 : -v * 1 ≤ -v * l := Int.mul_le_mul_of_nonneg_left (by omega) (by omega)
    have e : -v * l = -(v * l) := by grind
    omega
  · have a1 := Int.mul_nonneg (show 0 ≤ -u by omega) hr
    have e : -u * r = -(u * r) := by grind
    have a2 : v * 1 ≤ v * l := Int.mul_le_mul_of_nonneg_left (by omega) (by omega)
    omega
theorem bd0 : Bd 101 0 := by unfold Bd; exact Nat.two_pow_pos _
theorem bd1 : Bd 101 1 := by
  have : Bd 1 1 := by unfold Bd; decide
  exact this.mono (by omega)
structure MkI (a b l r u1 u2 v1 v2 : Int) : Prop where
  hl : 0 < l
  hr : 0 ≤ r
  hg : Int.gcd l r = Int.gcd a b
  i1 : u1 * a + u2 * b = l
  i2 : v1 * a + v2 * b = r
  E1 : Eu b l r u1 v1
  E2 : Eu a l r u2 v2
  B1 : Bd 101 u1
  B2 : Bd 101 u2
  B3 : Bd 101 l
  B4 : Bd 101 r
theorem MkI.step {a b l r u1 u2 v1 v2 : Int} (h1 : Bd 101 a) (h2 : Bd 101 b) (h : MkI a b l r u1 u2 v1 v2) (hz : 0 < r) : MkI a b r (l - l / r * r) v1 v2 (u1 - l / r * v1) (u2 - l / r * v2) := by
  have m1 := Int.emod_lt_of_pos l hz
  have m2 := Int.emod_nonneg l (show r ≠ 0 by omega)
  have m3 : l - l / r * r = l % r := by
    have := Int.emod_add_mul_ediv l r
    have e : r * (l / r) = l / r * r := Int.mul_comm _ _
    omega
  have i1 := h.i1
  have i2 := h.i2
  refine ⟨hz, by omega, by rw [m3, gcd_step (Int.le_of_lt h.hl) hz, h.hg], i2, ?_, h.E1.step (Int.le_of_lt h.hl) hz, h.E2.step (Int.le_of_lt h.hl) hz, h2.le (h.E1.small h.hl h.hr), h1.le (h.E2.small h.hl h.hr), h.B4, ?_⟩
  · generalize l / r = t at *
    rw [← i1, ← i2]
    grind
  · rw [m3]
    exact h.B4.le (by omega)
theorem MkI.bt {a b l r u1 u2 v1 v2 : Int} (h : MkI a b l r u1 u2 v1 v2) (hz : 0 < r) : Bd 101 (l / r) := by
  have hl := h.hl
  have t0 : 0 ≤ l / r := Int.ediv_nonneg (by omega) (by omega)
  have t1 : l / r ≤ l := Int.ediv_le_self _ (by omega)
  exact h.B3.le (by omega)
theorem MkI.lt {l r : Int} (hl : 0 ≤ l) (hz : 0 < r) : (l - l / r * r).toNat < r.toNat := by
  have m1 := Int.emod_lt_of_pos l hz
  have m2 := Int.emod_nonneg l (show r ≠ 0 by omega)
  have := Int.emod_add_mul_ediv l r
  have e : r * (l / r) = l / r * r := Int.mul_comm _ _
  omega
theorem bdN {k : Nat} (h : k ≤ 10 ^ 12) : Bd 101 (k : Int) := Nat.lt_of_le_of_lt (show ((k : Int)).natAbs ≤ 10 ^ 12 from h) (by decide)
theorem bdI {x : Int} (h : x.natAbs ≤ 10 ^ 12) : Bd 101 x := Nat.lt_of_le_of_lt h (by decide)
theorem sz {n : Nat} (h : n ≤ 900) : n < sizeLine := small1000 (by omega)
theorem intsOf_of : ∀ ns : List Int, intsOf (ns.map PyData.int) = some ns
  | [] => rfl
  | i :: r => by
    show (intsOf (r.map PyData.int)).map (i :: ·) = _
    rw [intsOf_of r]; rfl
theorem list_get {L : List Int} {i : Nat} {d : D} (h : (L.map PyData.int)[i]? = some d) : ∃ c, L[i]? = some c ∧ d = .int c := by
  rw [List.getElem?_map] at h
  cases z : L[i]? with
  | none => rw [z] at h; cases h
  | some c => rw [z] at h; exact ⟨c, rfl, (Option.some.inj h).symm⟩
theorem bd_g {g : Int} (h0 : 0 ≤ g) (h : g < 10 ^ 110) : Bd 400 g := Nat.lt_of_lt_of_le (show g.natAbs < 10 ^ 110 by omega) (by decide +kernel)
theorem bd_s {s : Int} (h0 : 0 ≤ s) (h : s < 2 ^ 64) : Bd 64 s := by unfold Bd; omega
/-- the law's dice -/
def Dice (o : Ow) : Prop := ∃ g s : Int, o = .lst [.int g, .int s] ∧ 0 ≤ g ∧ g < 10 ^ 110 ∧ 0 ≤ s ∧ s < 2 ^ 64
theorem dice_ok (A B : Int) : Dice (.lst [.int (A % 100000000000000000000000000000000000000000000000000000000000000000000000000000000000000000000000000000000000000), .int (B % 18446744073709551616)]) := by
  refine ⟨_, _, rfl, Int.emod_nonneg _ (by decide), ?_, Int.emod_nonneg _ (by decide), ?_⟩
  · exact Int.lt_of_lt_of_le (Int.emod_lt_of_pos _ (by decide)) (by decide)
  · exact Int.lt_of_lt_of_le (Int.emod_lt_of_pos _ (by decide)) (by decide)
/-! comprehensions over known data, turn by turn -/
def runC (gd : DTg) (t : DB) (f : DT) (vs : List Nat) (S : Ow → Env → Prop) : List D → List D → Env → Prop
  | [], acc, e => S (.lst acc) e
  | d :: r, acc, e => gd d e fun e3 => t e3 fun k e4 => if k = true then f e4 fun y e5 => acc.length < sizeLine ∧ runC gd t f vs S r (acc ++ [y]) (wipeE e5 vs) else runC gd t f vs S r acc (wipeE e4 vs)
theorem runC_nil {gd : DTg} {t : DB} {f : DT} {vs : List Nat} {S : Ow → Env → Prop} {acc : List D} {e : Env} : runC gd t f vs S [] acc e = S (.lst acc) e := rfl
theorem runC_cons {gd : DTg} {t : DB} {f : DT} {vs : List Nat} {S : Ow → Env → Prop} {acc r : List D} {d : D} {e : Env} : runC gd t f vs S (d :: r) acc e = gd d e fun e3 => t e3 fun k e4 => if k = true then f e4 fun y e5 => acc.length < sizeLine ∧ runC gd t f vs S r (acc ++ [y]) (wipeE e5 vs) else runC gd t f vs S r acc (wipeE e4 vs) := rfl
theorem comp_by {gd : DTg} {t : DB} {f : DT} {vs : List Nat} {S : Ow → Env → Prop} {ds : List D} {e1 : Env} (h : runC gd t f vs S ds [] (wipeE e1 vs)) : ∃ Pv : Nat → List D → Env → Prop, Pv 0 [] (wipeE e1 vs) ∧
    (∀ i d acc e2, ds[i]? = some d → Pv i acc e2 → gd d e2 fun e3 => t e3 fun k e4 => if k = true then f e4 fun y e5 => acc.length < sizeLine ∧ Pv (i + 1) (acc ++ [y]) (wipeE e5 vs) else Pv (i + 1) acc (wipeE e4 vs)) ∧
    ∀ acc e2, Pv ds.length acc e2 → S (.lst acc) e2 := by
  refine ⟨fun i acc e => runC gd t f vs S (ds.drop i) acc e, h, fun i d acc e2 q p => ?_, fun acc e2 p => ?_⟩
  · have hi : i < ds.length := (List.getElem?_eq_some_iff.mp q).1
    have e : ds.drop i = d :: ds.drop (i + 1) := by
      rw [List.drop_eq_getElem_cons hi]
      rw [List.getElem?_eq_getElem hi] at q
      rw [Option.some.inj q]
    have p' : runC gd t f vs S (ds.drop i) acc e2 := p
    rw [e] at p'
    exact p'
  · have p' : runC gd t f vs S (ds.drop ds.length) acc e2 := p
    rw [List.drop_length] at p'
    exact p'
theorem comp_runT {ff : DT} {gd : DTg} {t : DB} {f : DT} {vs : List Nat} {S : Ow → Env → Prop} {ds : List D} {e e1 : Env} (hr : ∀ Q : D → Env → Prop, Q (.tuple ds) e1 → ff e Q) (h : runC gd t f vs S ds [] (wipeE e1 vs)) : dComp (dItT ff) gd t f vs e S := hr _ (comp_by h)
theorem comp_runL {ff : DT} {gd : DTg} {t : DB} {f : DT} {vs : List Nat} {S : Ow → Env → Prop} {ds : List D} {e e1 : Env} (hr : ∀ Q : D → Env → Prop, Q (.list ds) e1 → ff e Q) (h : runC gd t f vs S ds [] (wipeE e1 vs)) : dComp (dItL ff) gd t f vs e S := hr _ (comp_by h)
@[simp ↓] theorem s_tyT {ds : List D} : tyName (.tuple ds) = "tuple" := rfl
@[simp ↓] theorem s_tyL {ds : List D} : tyName (.list ds) = "list" := rfl
@[simp] theorem kit_tt : kitB "tuple" "tuple" = some true := by decide +kernel
@[simp] theorem kit_it : kitB "int" "tuple" = some false := by decide +kernel
@[simp] theorem kit_lt : kitB "list" "tuple" = some false := by decide +kernel
@[simp] theorem bools1 {a : Bool} : boolsOf [.bool a] = some [a] := rfl
@[simp] theorem bools2 {a b : Bool} : boolsOf [.bool a, .bool b] = some [a, b] := rfl
end DL

/-! The D layer, part 14: equality with itself, lists at their ends. -/
namespace DL
open PySem PySem.Spec PyProof.Rows L2
def Pl (n : Nat) (d : D) : Prop := d.canLay0 = true ∧ d.depth ≤ n
theorem pl_int {n : Nat} {i : Int} : Pl n (.int i) := ⟨by simp [PyData.canLay0], by simp [PyData.depth]⟩
theorem pl_none {n : Nat} : Pl n .none := ⟨by simp [PyData.canLay0], by simp [PyData.depth]⟩
theorem pl_bool {n : Nat} {b : Bool} : Pl n (.bool b) := ⟨by simp [PyData.canLay0], by simp [PyData.depth]⟩
theorem pl_all {n : Nat} : ∀ {ds : List D}, (∀ d ∈ ds, Pl n d) → PyData.canLayAll0 ds = true ∧ PyData.depthAll ds ≤ n
  | [], _ => ⟨by simp [PyData.canLayAll0], by simp [PyData.depthAll]⟩
  | d :: ds, h => by
    have h1 := h d (List.mem_cons_self ..)
    have h2 := pl_all (ds := ds) fun x hx => h x (List.mem_cons_of_mem _ hx)
    simp only [PyData.canLayAll0, PyData.depthAll, h1.1, h2.1, Bool.and_self, true_and]
    exact Nat.max_le.mpr ⟨h1.2, h2.2⟩
theorem pl_tup {n : Nat} {ds : List D} (h : ∀ d ∈ ds, Pl n d) : Pl (n + 1) (.tuple ds) := by
  have := pl_all h
  exact ⟨by simp only [PyData.canLay0]; exact this.1, by simp only [PyData.depth]; omega⟩
theorem pl_list {n : Nat} {ds : List D} (h : ∀ d ∈ ds, Pl n d) : Pl (n + 1) (.list ds) := by
  have := pl_all h
  exact ⟨by simp only [PyData.canLay0]; exact this.1, by simp only [PyData.depth]; omega⟩
theorem Pl.sh {n : Nat} {d : D} (h : Pl n d) (hn : n ≤ 64) : SeqAt.shaped d = true := by
  unfold SeqAt.shaped
  rw [h.1, Bool.true_and]
  exact decide_eq_true (Nat.le_trans h.2 hn)
theorem gEq_any {x y : D} {P : D → Prop} (h1 : SeqAt.shaped x = true) (h2 : SeqAt.shaped y = true) (h : P (.bool (PyData.eqv x y))) : gEq x y P := by
  unfold gEq
  split
  · rw [eqv_int] at h; exact h
  · exact ⟨h1, h2, h⟩
theorem gNe_any {x y : D} {P : D → Prop} (h1 : SeqAt.shaped x = true) (h2 : SeqAt.shaped y = true) (h : P (.bool (!PyData.eqv x y))) : gNe x y P := by
  unfold gNe
  split
  · rw [eqv_int] at h; exact h
  · exact ⟨h1, h2, h⟩
theorem gEq_self {x : D} {P : D → Prop} {n : Nat} (h1 : Pl n x) (hn : n ≤ 64) (h : P (.bool true)) : gEq x x P :=
  gEq_any (h1.sh hn) (h1.sh hn) (by rw [SeqAt.eqv_refl x h1.1]; exact h)
theorem gNe_self {x : D} {P : D → Prop} {n : Nat} (h1 : Pl n x) (hn : n ≤ 64) (h : P (.bool false)) : gNe x x P :=
  gNe_any (h1.sh hn) (h1.sh hn) (by rw [SeqAt.eqv_refl x h1.1]; exact h)
theorem pl_pair {x y : Int} : Pl 1 (.tuple [.int x, .int y]) := pl_tup fun d h => by
  simp at h
  rcases h with rfl | rfl <;> exact pl_int
theorem at_last2 {α : Type} {pre : List α} {x y : α} : atI (pre ++ [x, y]) (-1) = some y := by
  unfold atI ixN
  have l : (pre ++ [x, y]).length = pre.length + 2 := by simp
  rw [l, if_neg (by omega), if_pos (by omega)]
  show (pre ++ [x, y])[((-1 : Int) + ((pre.length + 2 : Nat) : Int)).toNat]? = _
  rw [show ((-1 : Int) + ((pre.length + 2 : Nat) : Int)).toNat = pre.length + 1 by omega, List.getElem?_append_right (by omega), show pre.length + 1 - pre.length = 1 by omega]
  rfl
theorem at_last {α : Type} {pre : List α} {y : α} : atI (pre ++ [y]) (-1) = some y := by
  unfold atI ixN
  have l : (pre ++ [y]).length = pre.length + 1 := by simp
  rw [l, if_neg (by omega), if_pos (by omega)]
  show (pre ++ [y])[((-1 : Int) + ((pre.length + 1 : Nat) : Int)).toNat]? = _
  rw [show ((-1 : Int) + ((pre.length + 1 : Nat) : Int)).toNat = pre.length by omega, List.getElem?_append_right (by omega), show pre.length - pre.length = 0 by omega]
  rfl
theorem cut_last2 {pre : List D} {x y : D} : cutD (pre ++ [x, y]) (some (-2)) none = [x, y] := by
  unfold cutD
  have l : (pre ++ [x, y]).length = pre.length + 2 := by simp
  rw [l, HT.sIx_none]
  have e : HT.sIx (pre.length + 2) 0 (some (-2)) = pre.length := by
    unfold HT.sIx
    simp
    omega
  rw [e, List.drop_left, show pre.length + 2 - pre.length = 2 by omega]
  rfl
theorem cut_tail {x : D} {r : List D} : cutD (x :: r) (some 1) none = r := by
  unfold cutD
  rw [HT.sIx_none]
  have e : HT.sIx (x :: r).length 0 (some 1) = 1 := by
    unfold HT.sIx
    simp
  rw [e]
  show r.take ((r.length + 1) - 1) = r
  rw [show r.length + 1 - 1 = r.length by omega, List.take_length]
theorem cut_tail_ne {x : D} {r : List D} : ¬ (HT.sIx (x :: r).length 0 (some 1) = 0 ∧ HT.sIx (x :: r).length (x :: r).length none = (x :: r).length) := by
  intro h
  have e : HT.sIx (x :: r).length 0 (some 1) = 1 := by
    unfold HT.sIx
    simp
  omega
theorem for_keys {b : DSt} {D0 : DEnds} {e : DL.Env} {ff : DT} {gg : DTg} {L : List D} {e1 : DL.Env} (hr : ∀ Q : D → DL.Env → Prop, (∀ kvs : List (D × D), kvs.map (·.1) = L → Q (.dict kvs) e1) → ff e Q) (hk : ∀ d ∈ L, (keyOf d).isSome = true) (Pv : Nat → DL.Env → Prop) (h0 : Pv 0 e1)
    (hs : ∀ (i : Nat) d e2, L[i]? = some d → Pv i e2 → gg d e2 fun e3 => b { D0 with nx := Pv (i + 1), ct := Pv (i + 1), bk := D0.nx } e3) (hd : ∀ e2, Pv L.length e2 → D0.nx e2) : dFor (dItK ff) gg b D0 e := by
  refine hr _ fun kvs hL => ⟨?_, Pv, h0, fun i d e2 q p => hs i d e2 (by rw [← hL]; exact q) p, fun e2 p => hd e2 (by rw [← hL]; exact p)⟩
  rw [List.all_eq_true]
  intro x hx
  exact hk _ (by rw [← hL]; exact List.mem_map_of_mem hx)
theorem for_zipT {b : DSt} {D0 : DEnds} {e : DL.Env} {rr : DA} {gg : DTg} {xs ys : List D} {e1 : DL.Env} (hr : ∀ S : List D → DL.Env → Prop, S [.tuple xs, .tuple ys] e1 → rr e S) (Pv : Nat → DL.Env → Prop) (h0 : Pv 0 e1)
    (hs : ∀ (i : Nat) x y e2, xs[i]? = some x → ys[i]? = some y → Pv i e2 → gg (.tuple [x, y]) e2 fun e3 => b { D0 with nx := Pv (i + 1), ct := Pv (i + 1), bk := D0.nx } e3) (hd : ∀ e2, Pv (min xs.length ys.length) e2 → D0.nx e2) : dFor (dItZ rr) gg b D0 e := by
  refine hr _ ⟨Pv, h0, fun i d e2 q p => ?_, fun e2 p => hd e2 (by rw [zipD_len] at p; exact p)⟩
  obtain ⟨x, y, h1, h2, rfl⟩ := zipD_get q
  exact hs i x y e2 h1 h2 p
theorem for_zipL {b : DSt} {D0 : DEnds} {e : DL.Env} {rr : DA} {gg : DTg} {xs ys : List D} {e1 : DL.Env} (hr : ∀ S : List D → DL.Env → Prop, S [.list xs, .list ys] e1 → rr e S) (Pv : Nat → DL.Env → Prop) (h0 : Pv 0 e1)
    (hs : ∀ (i : Nat) x y e2, xs[i]? = some x → ys[i]? = some y → Pv i e2 → gg (.tuple [x, y]) e2 fun e3 => b { D0 with nx := Pv (i + 1), ct := Pv (i + 1), bk := D0.nx } e3) (hd : ∀ e2, Pv (min xs.length ys.length) e2 → D0.nx e2) : dFor (dItZ rr) gg b D0 e := by
  refine hr _ ⟨Pv, h0, fun i d e2 q p => ?_, fun e2 p => hd e2 (by rw [zipD_len] at p; exact p)⟩
  obtain ⟨x, y, h1, h2, rfl⟩ := zipD_get q
  exact hs i x y e2 h1 h2 p
theorem comp_tup {t : DB} {f : DT} {SO : Ow → DL.Env → Prop} {e : DL.Env} {ff : DT} {gg : DTg} {vs : List Nat} {ds : List D} {e1 : DL.Env} (hr : ∀ Q : D → DL.Env → Prop, Q (.tuple ds) e1 → ff e Q) (Pv : Nat → List D → DL.Env → Prop) (h0 : Pv 0 [] (wipeE e1 vs))
    (hs : ∀ (i : Nat) d acc e2, ds[i]? = some d → Pv i acc e2 → gg d e2 fun e3 => t e3 fun k e4 => if k = true then f e4 fun y e5 => acc.length < sizeLine ∧ Pv (i + 1) (acc ++ [y]) (wipeE e5 vs) else Pv (i + 1) acc (wipeE e4 vs))
    (hd : ∀ acc e2, Pv ds.length acc e2 → SO (.lst acc) e2) : dComp (dItT ff) gg t f vs e SO :=
  hr _ ⟨Pv, h0, hs, hd⟩
@[simp ↓] theorem s_none_tup {ds : List D} : isNone (.tuple ds) = false := rfl
@[simp ↓] theorem s_none_list {ds : List D} : isNone (.list ds) = false := rfl
@[simp ↓] theorem s_none_dict {ds : List (D × D)} : isNone (.dict ds) = false := rfl
@[simp ↓] theorem s_none_bool {b : Bool} : isNone (.bool b) = false := rfl
theorem co_dvd {b a x : Int} (h : b ∣ a * x) (co : Int.gcd b a = 1) : b ∣ x := by
  have h1 : b.natAbs ∣ a.natAbs * x.natAbs := by rw [← Int.natAbs_mul]; exact Int.natAbs_dvd_natAbs.mpr h
  exact Int.natAbs_dvd_natAbs.mp (Nat.Coprime.dvd_of_dvd_mul_left (show Nat.Coprime b.natAbs a.natAbs from co) h1)
theorem bezN : ∀ (k a b : Nat), b < k → ∃ x y : Int, x * a + y * b = (Nat.gcd a b : Nat)
  | 0, _, _, h => by omega
  | k + 1, a, b, h => by
    by_cases c : b = 0
    · subst c
      exact ⟨1, 0, by simp⟩
    · have l := Nat.mod_lt a (show 0 < b by omega)
      obtain ⟨x, y, e⟩ := bezN k b (a % b) (by omega)
      refine ⟨y, x - y * (a / b : Nat), ?_⟩
      have e1 : Nat.gcd a b = Nat.gcd b (a % b) := by rw [Nat.gcd_comm a b, Nat.gcd_rec b a, Nat.gcd_comm]
      rw [e1, ← e]
      have e2 : (a : Int) = b * (a / b : Nat) + (a % b : Nat) := by
        have := Nat.div_add_mod a b
        rw [← Int.natCast_mul, ← Int.natCast_add, this]
      generalize ((a / b : Nat) : Int) = t at *
      generalize ((a % b : Nat) : Int) = r at *
      rw [e2]
      grind
theorem bez {a b : Int} (ha : 0 ≤ a) (hb : 0 ≤ b) : ∃ x y : Int, x * a + y * b = (Int.gcd a b : Nat) := by
  obtain ⟨m, rfl⟩ := Int.eq_ofNat_of_zero_le ha
  obtain ⟨n, rfl⟩ := Int.eq_ofNat_of_zero_le hb
  rw [Int.gcd_natCast_natCast]
  exact bezN (n + 1) m n (by omega)
theorem parts {t b : Int} (hb : 0 < b) : ∃ u v : Int, t / (Int.gcd t b : Nat) = u ∧ b / (Int.gcd t b : Nat) = v ∧ t = u * (Int.gcd t b : Nat) ∧ b = v * (Int.gcd t b : Nat) ∧ Int.gcd u v = 1 ∧ 0 < v ∧ 0 < ((Int.gcd t b : Nat) : Int) := by
  have hg : 0 < Int.gcd t b := Int.gcd_pos_of_ne_zero_right t (by omega)
  have h1 : t / (Int.gcd t b : Nat) * (Int.gcd t b : Nat) = t := Int.ediv_mul_cancel (Int.gcd_dvd_left t b)
  have h2 : b / (Int.gcd t b : Nat) * (Int.gcd t b : Nat) = b := Int.ediv_mul_cancel (Int.gcd_dvd_right t b)
  refine ⟨_, _, rfl, rfl, h1.symm, h2.symm, Int.gcd_ediv_gcd_ediv_gcd hg, ?_, by omega⟩
  refine Int.pos_of_mul_pos_left (b := ((Int.gcd t b : Nat) : Int)) ?_ (by omega)
  rw [h2]; exact hb
theorem for_rng2 {b : DSt} {D0 : DEnds} {e : DL.Env} {rr : DA} {gg : DTg} {i0 j : Int} {e1 : DL.Env} (hr : ∀ S : List D → DL.Env → Prop, S [.int i0, .int j] e1 → rr e S) (h1 : -(2 ^ 62) ≤ i0 ∧ i0 < 2 ^ 62 ∧ -(2 ^ 62) ≤ j ∧ j < 2 ^ 62) (Pv : Nat → DL.Env → Prop) (h0 : Pv 0 e1)
    (hs : ∀ (i : Nat) e2, i0 + (i : Int) < j → Pv i e2 → gg (.int (i0 + i)) e2 fun e3 => b { D0 with nx := Pv (i + 1), ct := Pv (i + 1), bk := D0.nx } e3) (hd : ∀ e2, Pv (j - i0).toNat e2 → D0.nx e2) : dFor (dRng2 rr) gg b D0 e := by
  refine hr _ ⟨h1, Pv, h0, fun i d e2 q p => ?_, fun e2 p => hd e2 (by rw [upto_len] at p; exact p)⟩
  obtain ⟨l, rfl⟩ := upto_get _ _ _ q
  exact hs i e2 (by omega) p
theorem map_get {α : Type} {f : α → D} {L : List α} {i : Nat} {d : D} (h : (L.map f)[i]? = some d) : ∃ c, L[i]? = some c ∧ d = f c := by
  rw [List.getElem?_map] at h
  cases z : L[i]? with
  | none => rw [z] at h; cases h
  | some c => rw [z] at h; exact ⟨c, rfl, (Option.some.inj h).symm⟩
theorem take_S {α : Type} {L : List α} {i : Nat} {c : α} (h : L[i]? = some c) : L.take (i + 1) = L.take i ++ [c] := by
  rw [List.take_add_one, h]
  rfl
theorem mem_get {α : Type} {L : List α} {i : Nat} {c : α} (h : L[i]? = some c) : c ∈ L := List.mem_of_getElem? h
end DL

namespace Nk07
/-- the simplest fraction between a/b and c/d (none: the fuel does not do) -/
def S : Nat → Int → Int → Int → Int → Option (Int × Int)
  | 0, _, _, _, _ => none
  | k + 1, a, b, c, d =>
    if (a / b + 1) * d < c then some (a / b + 1, 1)
    else if a - a / b * b = 0 then some (a / b * (d / (c - a / b * d) + 1) + 1, d / (c - a / b * d) + 1)
    else match S k d (c - a / b * d) b (a - a / b * b) with
      | some r => some (a / b * r.1 + r.2, r.1)
      | none => none
/-- two fractions, the first below -/
structure Two (a b c d : Int) : Prop where
  hb : 0 < b
  hd : 0 < d
  lt : a * d < c * b
theorem div_lo {a b : Int} (hb : 0 < b) : a / b * b ≤ a := by
  have := Int.emod_add_mul_ediv a b
  have h := Int.emod_nonneg a (show b ≠ 0 by omega)
  have e : b * (a / b) = a / b * b := Int.mul_comm _ _
  omega
theorem div_hi {a b : Int} (hb : 0 < b) : a < (a / b + 1) * b := by
  have := Int.emod_add_mul_ediv a b
  have h := Int.emod_lt_of_pos a hb
  have e : b * (a / b) = a / b * b := Int.mul_comm _ _
  rw [Int.add_mul]
  omega
theorem Two.below {a b c d : Int} (h : Two a b c d) : 0 < c - a / b * d := by
  have h1 := div_lo (a := a) h.hb
  have h2 : a / b * b * d ≤ a * d := Int.mul_le_mul_of_nonneg_right h1 (Int.le_of_lt h.hd)
  have h3 := h.lt
  have e : a / b * b * d = a / b * d * b := by grind
  have : 0 < (c - a / b * d) * b := by rw [Int.sub_mul]; omega
  exact Int.pos_of_mul_pos_left this h.hb
theorem Two.rest {a b : Int} (hb : 0 < b) : 0 ≤ a - a / b * b ∧ a - a / b * b < b := by
  have h1 := div_lo (a := a) hb
  have h2 := div_hi (a := a) hb
  rw [Int.add_mul] at h2
  omega
/-- the turned ones -/
theorem Two.turn {a b c d : Int} (h : Two a b c d) (hz : a - a / b * b ≠ 0) : Two d (c - a / b * d) b (a - a / b * b) := by
  have hr := Two.rest (a := a) h.hb
  refine ⟨h.below, by omega, ?_⟩
  have := h.lt
  have e1 : d * (a - a / b * b) = a * d - a / b * b * d := by grind
  have e2 : b * (c - a / b * d) = c * b - a / b * b * d := by grind
  omega
def fib : Nat → Nat
  | 0 => 0
  | 1 => 1
  | k + 2 => fib k + fib (k + 1)
/-- too little fuel: the bottom is great -/
theorem S_deep : ∀ (k : Nat) (a b c d : Int), Two a b c d → S k a b c d = none →
    ((fib k : Int) ≤ b ∧ (1 ≤ k → (fib (k - 1) : Int) ≤ a - a / b * b)) ∧ (1 ≤ a / b → (fib k : Int) ≤ d ∧ (fib (k + 1) : Int) ≤ c)
  | 0, a, b, c, d, h, _ => by
    have hb := h.hb
    have hd := h.hd
    have hB := h.below
    refine ⟨⟨Int.le_of_lt hb, by omega⟩, fun h1 => ⟨Int.le_of_lt hd, ?_⟩⟩
    have : (1 : Int) * d ≤ a / b * d := Int.mul_le_mul_of_nonneg_right h1 (by omega)
    show (1 : Int) ≤ c
    omega
  | k + 1, a, b, c, d, h, hS => by
    unfold S at hS
    split at hS
    · cases hS
    · rename_i n1
      split at hS
      · cases hS
      · rename_i n2
        have T := h.turn n2
        have hr := Two.rest (a := a) h.hb
        have hB := h.below
        have hS' : S k d (c - a / b * d) b (a - a / b * b) = none := by
          cases z : S k d (c - a / b * d) b (a - a / b * b) with
          | none => rfl
          | some r => rw [z] at hS; cases hS
        obtain ⟨⟨i1, i2⟩, i3⟩ := S_deep k _ _ _ _ T hS'
        have hle : c - a / b * d ≤ d := by rw [Int.add_mul] at n1; omega
        have w1 : 1 ≤ d / (c - a / b * d) := by
          have := Int.ediv_le_ediv hB hle
          rw [Int.ediv_self (by omega)] at this
          exact this
        obtain ⟨j1, j2⟩ := i3 w1
        refine ⟨⟨j2, fun _ => j1⟩, fun hw => ?_⟩
        have e1 : (1 : Int) * d ≤ a / b * d := Int.mul_le_mul_of_nonneg_right hw (Int.le_of_lt h.hd)
        have dl := div_lo (a := d) hB
        have e2 : (1 : Int) * (c - a / b * d) ≤ d / (c - a / b * d) * (c - a / b * d) := Int.mul_le_mul_of_nonneg_right w1 (Int.le_of_lt hB)
        have fd : (fib (k + 1) : Int) ≤ d := by
          cases k with
          | zero => have := h.hd; show (1 : Int) ≤ d; omega
          | succ k =>
            have i2 := i2 (by omega)
            show ((fib k + fib (k + 1) : Nat) : Int) ≤ d
            have : fib (k + 1 - 1) = fib k := rfl
            rw [this] at i2
            push_cast
            omega
        refine ⟨fd, ?_⟩
        show ((fib k + fib (k + 1) : Nat) : Int) ≤ c
        push_cast
        omega
/-- enough fuel -/
theorem S_ends {k : Nat} {a b c d : Int} (h : Two a b c d) (hk : b < fib k) : ∃ p, S k a b c d = some p := by
  cases z : S k a b c d with
  | some p => exact ⟨p, rfl⟩
  | none =>
    have := (S_deep k a b c d h z).1.1
    omega
/-- what S finds lies between, and is the least -/
structure Best (a b c d p q : Int) : Prop where
  hq : 0 < q
  lo : a * q < p * b
  hi : p * d < c * q
  low : ∀ x y : Int, 0 < y → a * y < x * b → x * d < c * y → q ≤ y
  top : ∀ x y : Int, 0 < y → a * y < x * b → x * d < c * y → (0 ≤ a ∨ y = q) → p ≤ x
theorem lt_of_mul {u v b : Int} (hb : 0 < b) (h : u * b < v * b) : u < v := Int.lt_of_mul_lt_mul_right h (Int.le_of_lt hb)
theorem S_best : ∀ (k : Nat) (a b c d p q : Int), Two a b c d → S k a b c d = some (p, q) → Best a b c d p q
  | 0, a, b, c, d, p, q, h, hS => by cases hS
  | k + 1, a, b, c, d, p, q, h, hS => by
    have hb := h.hb
    have hd := h.hd
    have hl := div_lo (a := a) hb
    have hh := div_hi (a := a) hb
    have hB := h.below
    have hr := Two.rest (a := a) hb
    have wpos : 0 ≤ a → 0 ≤ a / b := fun ha => Int.ediv_nonneg ha (Int.le_of_lt hb)
    unfold S at hS
    generalize a / b = w at *
    split at hS
    · rename_i n1
      cases hS
      refine ⟨by decide, by rw [Int.mul_one]; exact hh, by rw [Int.mul_one]; exact n1, fun x y hy h1 h2 => hy, fun x y hy h1 h2 h3 => ?_⟩
      have : w < x := by
        refine lt_of_mul hb ?_
        rcases h3 with h3 | h3
        · have : a * 1 ≤ a * y := Int.mul_le_mul_of_nonneg_left hy h3
          omega
        · subst h3; omega
      omega
    · rename_i n1
      split at hS
      · rename_i n2
        cases hS
        have e0 : a = w * b := by omega
        have dl := div_lo (a := d) hB
        have dh := div_hi (a := d) hB
        have q0 : 0 ≤ d / (c - w * d) := Int.ediv_nonneg (Int.le_of_lt hd) (Int.le_of_lt hB)
        generalize d / (c - w * d) = t at *
        have key : ∀ x y : Int, 0 < y → a * y < x * b → x * d < c * y → t + 1 ≤ y ∧ w * y + 1 ≤ x := fun x y hy h1 h2 => by
          have x1 : w * y < x := by
            refine lt_of_mul hb ?_
            have : w * y * b = a * y := by rw [e0]; grind
            omega
          refine ⟨?_, by omega⟩
          have x2 : (w * y + 1) * d ≤ x * d := Int.mul_le_mul_of_nonneg_right (by omega) (Int.le_of_lt hd)
          have x3 : d < y * (c - w * d) := by
            have e : y * (c - w * d) = c * y - w * y * d := by grind
            rw [Int.add_mul] at x2
            omega
          have : t < y := lt_of_mul hB (by omega)
          omega
        refine ⟨by omega, ?_, ?_, fun x y hy h1 h2 => (key x y hy h1 h2).1, fun x y hy h1 h2 h3 => ?_⟩
        · have : (w * (t + 1) + 1) * b = a * (t + 1) + b := by rw [e0]; grind
          omega
        · have : c * (t + 1) - (w * (t + 1) + 1) * d = (t + 1) * (c - w * d) - d := by grind
          omega
        · obtain ⟨k1, k2⟩ := key x y hy h1 h2
          rcases h3 with h3 | h3
          · have := wpos h3
            have : w * (t + 1) ≤ w * y := Int.mul_le_mul_of_nonneg_left k1 this
            omega
          · subst h3; exact k2
      · rename_i n2
        have T : Two d (c - w * d) b (a - w * b) := by
          refine ⟨hB, by omega, ?_⟩
          have := h.lt
          have e1 : d * (a - w * b) = a * d - w * b * d := by grind
          have e2 : b * (c - w * d) = c * b - w * b * d := by grind
          omega
        cases z : S k d (c - w * d) b (a - w * b) with
        | none => rw [z] at hS; cases hS
        | some r =>
          rw [z] at hS
          obtain ⟨r1, r2⟩ := r
          cases hS
          have B := S_best k _ _ _ _ r1 r2 T z
          have lo := B.lo
          have hi := B.hi
          have h2 := B.hq
          have h1 : 0 < r1 := by
            have : 0 < d * r2 := Int.mul_pos hd h2
            have : 0 < r1 * (c - w * d) := by omega
            exact Int.pos_of_mul_pos_left this hB
          have key : ∀ x y : Int, 0 < y → a * y < x * b → x * d < c * y → r1 ≤ y ∧ r2 ≤ x - w * y := fun x y hy g1 g2 => by
            have e1 : (a - w * b) * y < (x - w * y) * b := by
              have e : (x - w * y) * b - (a - w * b) * y = x * b - a * y := by grind
              omega
            have e2 : (x - w * y) * d < (c - w * d) * y := by
              have e : (c - w * d) * y - (x - w * y) * d = c * y - x * d := by grind
              omega
            have x0 : 0 < x - w * y := by
              have : 0 < (a - w * b) * y := Int.mul_pos (by omega) hy
              have : 0 < (x - w * y) * b := by omega
              exact Int.pos_of_mul_pos_left this hb
            have f1 : d * (x - w * y) < y * (c - w * d) := by
              have e3 : d * (x - w * y) = (x - w * y) * d := Int.mul_comm _ _
              have e4 : y * (c - w * d) = (c - w * d) * y := Int.mul_comm _ _
              omega
            have f2 : y * (a - w * b) < b * (x - w * y) := by
              have e3 : y * (a - w * b) = (a - w * b) * y := Int.mul_comm _ _
              have e4 : b * (x - w * y) = (x - w * y) * b := Int.mul_comm _ _
              omega
            exact ⟨B.top y (x - w * y) x0 f1 f2 (.inl (Int.le_of_lt hd)), B.low y (x - w * y) x0 f1 f2⟩
          refine ⟨h1, ?_, ?_, fun x y hy g1 g2 => (key x y hy g1 g2).1, fun x y hy g1 g2 g3 => ?_⟩
          · show a * r1 < (w * r1 + r2) * b
            have e : (w * r1 + r2) * b - a * r1 = b * r2 - r1 * (a - w * b) := by grind
            omega
          · show (w * r1 + r2) * d < c * r1
            have e : c * r1 - (w * r1 + r2) * d = r1 * (c - w * d) - d * r2 := by grind
            omega
          · obtain ⟨k1, k2⟩ := key x y hy g1 g2
            show w * r1 + r2 ≤ x
            rcases g3 with g3 | g3
            · have := Int.mul_le_mul_of_nonneg_left k1 (wpos g3)
              omega
            · subst g3; omega
theorem Best.uniq {a b c d p q p' q' : Int} (h : Best a b c d p q) (h' : Best a b c d p' q') : p = p' ∧ q = q' := by
  have q1 := h.low p' q' h'.hq h'.lo h'.hi
  have q2 := h'.low p q h.hq h.lo h.hi
  have e : q = q' := by omega
  subst e
  have p1 := h.top p' q h'.hq h'.lo h'.hi (.inr rfl)
  have p2 := h'.top p q h.hq h.lo h.hi (.inr rfl)
  exact ⟨by omega, rfl⟩
theorem Best.co {a b c d p q : Int} (h : Best a b c d p q) : Int.gcd p q = 1 := by
  have hg : 0 < Int.gcd p q := Int.gcd_pos_of_ne_zero_right p (by have := h.hq; omega)
  obtain ⟨u, hu⟩ := Int.gcd_dvd_left p q
  obtain ⟨v, hv⟩ := Int.gcd_dvd_right p q
  generalize hgg : ((Int.gcd p q : Nat) : Int) = g at *
  have g0 : 0 < g := by omega
  have hq := h.hq
  have v0 : 0 < v := by
    rw [hv] at hq
    exact Int.pos_of_mul_pos_right hq g0
  have l := h.low u v v0 (by
    have := h.lo
    refine lt_of_mul g0 ?_
    have e1 : a * v * g = a * q := by rw [hv]; grind
    have e2 : u * b * g = p * b := by rw [hu]; grind
    omega) (by
    have := h.hi
    refine lt_of_mul g0 ?_
    have e1 : u * d * g = p * d := by rw [hu]; grind
    have e2 : c * v * g = c * q := by rw [hv]; grind
    omega)
  have : g = 1 := by
    have : 1 * v ≤ g * v := Int.mul_le_mul_of_nonneg_right (by omega) (Int.le_of_lt v0)
    have e : g * v = q := hv.symm
    have : (g - 1) * v = 0 := by rw [Int.sub_mul]; omega
    rcases Int.mul_eq_zero.mp this with z | z
    · omega
    · omega
  omega
/-- neighbours: what lies between is their sum at least -/
theorem best_sum {a b c d : Int} (hb : 0 < b) (hd : 0 < d) (hc : 0 ≤ c) (ha : 0 ≤ a) (h : a * d - b * c = 1) : Best c d a b (a + c) (b + d) := by
  have key : ∀ x y : Int, 0 < y → c * y < x * d → x * b < a * y → b + d ≤ y ∧ a + c ≤ x := fun x y hy h1 h2 => by
    have e1 : y = d * (a * y - x * b) + b * (x * d - c * y) := by
      have : d * (a * y - x * b) + b * (x * d - c * y) = y * (a * d - b * c) := by grind
      rw [this, h, Int.mul_one]
    have e2 : x = a * (x * d - c * y) + c * (a * y - x * b) := by
      have : a * (x * d - c * y) + c * (a * y - x * b) = x * (a * d - b * c) := by grind
      rw [this, h, Int.mul_one]
    have m1 : 1 ≤ a * y - x * b := by omega
    have m2 : 1 ≤ x * d - c * y := by omega
    generalize a * y - x * b = m at *
    generalize x * d - c * y = n at *
    have f1 := Int.mul_le_mul_of_nonneg_left m1 (Int.le_of_lt hd)
    have f2 := Int.mul_le_mul_of_nonneg_left m2 (Int.le_of_lt hb)
    have f3 := Int.mul_le_mul_of_nonneg_left m2 ha
    have f4 := Int.mul_le_mul_of_nonneg_left m1 hc
    omega
  refine ⟨by omega, ?_, ?_, fun x y hy h1 h2 => (key x y hy h1 h2).1, fun x y hy h1 h2 _ => (key x y hy h1 h2).2⟩
  · have : (a + c) * d - c * (b + d) = a * d - b * c := by grind
    omega
  · have : a * (b + d) - (a + c) * b = a * d - b * c := by grind
    omega
end Nk07

namespace Nk07
/-- all of p out of l -/
def strip : Nat → Nat → Nat → Option Nat
  | 0, _, _ => none
  | k + 1, l, p => if l % p = 0 then strip k (l / p) p else some l
/-- the primes of l from p on -/
def keysF : Nat → Nat → Nat → Option (List Nat)
  | 0, _, _ => none
  | k + 1, l, p => if l ≤ 1 then some [] else match strip 64 l p with
    | none => none
    | some l' => (keysF k l' (p + 1)).map ((if l % p = 0 then [p] else []) ++ ·)
def ste (f p : Nat) : Nat := f / p * (p - 1)
def phiM (n : Nat) : Option Nat := (keysF 1001 n 2).map (·.foldl ste n)
def lphF : Nat → Nat → Nat → Nat → Option Nat
  | 0, _, _, _ => none
  | k + 1, f, l, a => if a * a ≤ l then match strip 64 l a with
    | none => none
    | some l' => lphF k (if l % a = 0 then ste f a else f) l' (a + 1)
    else some (if 1 < l then ste f l else f)
def lphM (n : Nat) : Option Nat := lphF 40 n n 2
def sumM : Nat → Option Nat
  | 0 => some 0
  | n + 1 => match sumM n with
    | none => none
    | some a => match phiM (n + 1) with
      | none => none
      | some b => some (a + b)
theorem sum1000 : sumM 1000 = some 304192 := by decide +kernel
def both : Nat → Bool
  | 0 => true
  | n + 1 => (phiM (n + 1) == lphM (n + 1)) && both n
theorem both90 : both 90 = true := by decide +kernel
end Nk07

namespace Nk07
/-- x made a number before it is handed on -/
def fc (x : Nat) (f : Nat → Nat) : Nat := Nat.rec (motive := fun _ => Nat) (f 0) (fun y _ => f (y + 1)) x
theorem fc_eq (x : Nat) (f : Nat → Nat) : fc x f = f x := by cases x <;> rfl
/-- the length of a row from (a, b), (c, d) on, acc so far -/
def cnt (n : Nat) (k : Nat) : Nat → Nat → Nat → Nat → Nat → Nat :=
  Nat.rec (motive := fun _ => Nat → Nat → Nat → Nat → Nat → Nat) (fun _ _ _ _ _ => 1000000)
    (fun _ ih a b c d acc => cond (Nat.beq c d) acc (fc ((n + b) / d) fun t => fc (t * c - a) fun e => fc (t * d - b) fun f => fc (acc + 1) fun acc' => ih c d e f acc')) k
theorem cnt_0 (n a b c d acc : Nat) : cnt n 0 a b c d acc = 1000000 := rfl
theorem cnt_S (n k a b c d acc : Nat) : cnt n (k + 1) a b c d acc = if c = d then acc else cnt n k c d ((n + b) / d * c - a) ((n + b) / d * d - b) (acc + 1) := by
  have e : cnt n (k + 1) a b c d acc = cond (Nat.beq c d) acc (fc ((n + b) / d) fun t => fc (t * c - a) fun e => fc (t * d - b) fun f => fc (acc + 1) fun acc' => cnt n k c d e f acc') := rfl
  rw [e]
  simp only [fc_eq]
  by_cases h : c = d
  · rw [if_pos h, h, Nat.beq_refl]; rfl
  · rw [if_neg h]
    have : Nat.beq c d = false := by
      cases z : Nat.beq c d
      · rfl
      · exact absurd (Nat.eq_of_beq_eq_true z) h
    rw [this]; rfl
def rows : Nat → Option Nat
  | 0 => some 0
  | n + 1 => match rows n with
    | none => none
    | some s => match phiM (n + 1) with
      | none => none
      | some f => if Nat.beq (cnt (n + 1) 2600 0 1 1 (n + 1) 2) (1 + (s + f)) = true then some (s + f) else none
theorem rows90 : (rows 90).isSome = true := by decide +kernel
end Nk07

namespace Nk07
open PySem PySem.Spec PyProof.Rows L2 DL
abbrev FAR : Int := 1000000000000000000000000000000000000000000000000000000000000
abbrev N_is_whole : List Str := ["value"]
/-- is_whole -/
def t_is_whole : DSt :=
  (dRet (dAndV (dIsi "int" (dVar 0)) (dNotV (dIsi "bool" (dVar 0)))))

abbrev C_is_whole : C0 := CLD 1 N_is_whole t_is_whole

theorem u_is_whole {x0 : D} {P : D → Prop} (h : t_is_whole { nx := fun _ => P .none, rt := fun d _ => P d } [.im x0]) : C_is_whole [x0] P := CLD.of h

abbrev N_is_near : List Str := ["value"]
/-- is_near -/
def t_is_near : DSt :=
  (dRet (dAndV (dCall C_is_whole (dCons (dVar 0) dNil)) (dChain gLt gLt (dUn (fun i => .int (-i)) (dC (.int FAR))) (dVar 0) (dC (.int FAR)))))

abbrev C_is_near : C0 := CLD 1 N_is_near t_is_near

theorem u_is_near {x0 : D} {P : D → Prop} (h : t_is_near { nx := fun _ => P .none, rt := fun d _ => P d } [.im x0]) : C_is_near [x0] P := CLD.of h

abbrev N_is_within : List Str := ["value", "least", "most"]
/-- is_within -/
def t_is_within : DSt :=
  (dRet (dAndV (dCall C_is_whole (dCons (dVar 0) dNil)) (dChain gLe gLe (dVar 1) (dVar 0) (dVar 2))))

abbrev C_is_within : C0 := CLD 3 N_is_within t_is_within

theorem u_is_within {x0 x1 x2 : D} {P : D → Prop} (h : t_is_within { nx := fun _ => P .none, rt := fun d _ => P d } [.im x0, .im x1, .im x2]) : C_is_within [x0, x1, x2] P := CLD.of h

abbrev N_is_pair : List Str := ["value"]
/-- is_pair -/
def t_is_pair : DSt :=
  (dRet (dAndV (dIsi "tuple" (dVar 0)) (dBin gEq (dCallB gLen (dCons (dVar 0) dNil)) (dC (.int 2)))))

abbrev C_is_pair : C0 := CLD 1 N_is_pair t_is_pair

theorem u_is_pair {x0 : D} {P : D → Prop} (h : t_is_pair { nx := fun _ => P .none, rt := fun d _ => P d } [.im x0]) : C_is_pair [x0] P := CLD.of h

abbrev N_require_number : List Str := ["value", "least", "most"]
/-- require_number -/
def t_require_number : DSt :=
  (dIfS (dOr (dNot (dB (dCall C_is_near (dCons (dVar 0) dNil)))) (dOr (dAnd (dB (dBin gNotN (dVar 1) (dC .none))) (dB (dBin gLt (dVar 0) (dVar 1)))) (dAnd (dB (dBin gNotN (dVar 2) (dC .none))) (dB (dBin gGt (dVar 0) (dVar 2)))))) dNever dPass)

abbrev C_require_number : C0 := CLD 3 N_require_number t_require_number

theorem u_require_number {x0 x1 x2 : D} {P : D → Prop} (h : t_require_number { nx := fun _ => P .none, rt := fun d _ => P d } [.im x0, .im x1, .im x2]) : C_require_number [x0, x1, x2] P := CLD.of h

abbrev N_common_divisor : List Str := ["one", "other", "left", "right"]
/-- common_divisor -/
def t_common_divisor : DSt :=
  (dSeq (dPar 2 3 (dCons (dCallB gAbs (dCons (dVar 0) dNil)) (dCons (dCallB gAbs (dCons (dVar 1) dNil)) dNil)))
  (dSeq (dWhile (dTru (dVar 3)) (dPar 2 3 (dCons (dVar 3) (dCons (dBin gMod (dVar 2) (dVar 3)) dNil))))
  (dRet (dVar 2))))

abbrev C_common_divisor : C0 := CLD 2 N_common_divisor t_common_divisor

theorem u_common_divisor {x0 x1 : D} {P : D → Prop} (h : t_common_divisor { nx := fun _ => P .none, rt := fun d _ => P d } [.im x0, .im x1, .un, .un]) : C_common_divisor [x0, x1] P := CLD.of h

abbrev N_is_point_in : List Str := ["value", "number"]
/-- is_point_in -/
def t_is_point_in : DSt :=
  (dRet (dAndV (dCall C_is_pair (dCons (dVar 0) dNil)) (dCallB gAll (dCons (dFrz (dComp (dItT (dVar 0)) (dgName 1) dYes (dCall C_is_within (dCons (dVar 1) (dCons (dUn (fun i => .int (-i)) (dC (.int 1000))) (dCons (dC (.int 1000)) dNil)))) [1])) dNil))))

abbrev C_is_point_in : C0 := CLD 1 N_is_point_in t_is_point_in

theorem u_is_point_in {x0 : D} {P : D → Prop} (h : t_is_point_in { nx := fun _ => P .none, rt := fun d _ => P d } [.im x0, .un]) : C_is_point_in [x0] P := CLD.of h

abbrev N_is_step_in : List Str := ["value", "number"]
/-- is_step_in -/
def t_is_step_in : DSt :=
  (dRet (dAndV (dCall C_is_pair (dCons (dVar 0) dNil)) (dCallB gAll (dCons (dFrz (dComp (dItT (dVar 0)) (dgName 1) dYes (dCall C_is_within (dCons (dVar 1) (dCons (dUn (fun i => .int (-i)) (dC (.int 2000))) (dCons (dC (.int 2000)) dNil)))) [1])) dNil))))

abbrev C_is_step_in : C0 := CLD 1 N_is_step_in t_is_step_in

theorem u_is_step_in {x0 : D} {P : D → Prop} (h : t_is_step_in { nx := fun _ => P .none, rt := fun d _ => P d } [.im x0, .un]) : C_is_step_in [x0] P := CLD.of h

abbrev N_step_in : List Str := ["a", "b"]
/-- step_in -/
def t_step_in : DSt :=
  (dRet (dTup (dCons (dBin gSub (dBin gIx (dVar 1) (dC (.int 0))) (dBin gIx (dVar 0) (dC (.int 0)))) (dCons (dBin gSub (dBin gIx (dVar 1) (dC (.int 1))) (dBin gIx (dVar 0) (dC (.int 1)))) dNil))))

abbrev C_step_in : C0 := CLD 2 N_step_in t_step_in

theorem u_step_in {x0 x1 : D} {P : D → Prop} (h : t_step_in { nx := fun _ => P .none, rt := fun d _ => P d } [.im x0, .im x1]) : C_step_in [x0, x1] P := CLD.of h

abbrev N_divisor_in : List Str := ["step", "left", "right"]
/-- divisor_in -/
def t_divisor_in : DSt :=
  (dSeq (dPar 1 2 (dCons (dCallB gAbs (dCons (dBin gIx (dVar 0) (dC (.int 0))) dNil)) (dCons (dCallB gAbs (dCons (dBin gIx (dVar 0) (dC (.int 1))) dNil)) dNil)))
  (dSeq (dWhile (dTru (dVar 2)) (dPar 1 2 (dCons (dVar 2) (dCons (dBin gMod (dVar 1) (dVar 2)) dNil))))
  (dRet (dVar 1))))

abbrev C_divisor_in : C0 := CLD 1 N_divisor_in t_divisor_in

theorem u_divisor_in {x0 : D} {P : D → Prop} (h : t_divisor_in { nx := fun _ => P .none, rt := fun d _ => P d } [.im x0, .un, .un]) : C_divisor_in [x0] P := CLD.of h

abbrev N_makers_in : List Str := ["one", "other", "first", "second", "left", "right", "times"]
/-- makers_in -/
def t_makers_in : DSt :=
  (dSeq (dAsg (dTup (dCons (dTup (dCons (dC (.int 1)) (dCons (dC (.int 0)) dNil))) (dCons (dTup (dCons (dC (.int 0)) (dCons (dC (.int 1)) dNil))) dNil))) (dgTup 2 (dgCons (dgName 2) (dgCons (dgName 3) dgNil))))
  (dSeq (dPar 4 5 (dCons (dVar 0) (dCons (dVar 1) dNil)))
  (dSeq (dWhile (dTru (dVar 5)) (dSeq (dAsg (dBin gDiv (dVar 4) (dVar 5)) (dgName 6))
  (dSeq (dPar 4 5 (dCons (dVar 5) (dCons (dBin gSub (dVar 4) (dBin gMul (dVar 6) (dVar 5))) dNil)))
  (dPar 2 3 (dCons (dVar 3) (dCons (dTup (dCons (dBin gSub (dBin gIx (dVar 2) (dC (.int 0))) (dBin gMul (dVar 6) (dBin gIx (dVar 3) (dC (.int 0))))) (dCons (dBin gSub (dBin gIx (dVar 2) (dC (.int 1))) (dBin gMul (dVar 6) (dBin gIx (dVar 3) (dC (.int 1))))) dNil))) dNil))))))
  (dRet (dIf (dB (dBin gGt (dVar 4) (dC (.int 0)))) (dVar 2) (dTup (dCons (dUn (fun i => .int (-i)) (dBin gIx (dVar 2) (dC (.int 0)))) (dCons (dUn (fun i => .int (-i)) (dBin gIx (dVar 2) (dC (.int 1)))) dNil))))))))

abbrev C_makers_in : C0 := CLD 2 N_makers_in t_makers_in

theorem u_makers_in {x0 x1 : D} {P : D → Prop} (h : t_makers_in { nx := fun _ => P .none, rt := fun d _ => P d } [.im x0, .im x1, .un, .un, .un, .un, .un]) : C_makers_in [x0, x1] P := CLD.of h

abbrev N_require_point : List Str := ["value"]
/-- require_point -/
def t_require_point : DSt :=
  (dIfS (dNot (dB (dCall C_is_point_in (dCons (dVar 0) dNil)))) dNever dPass)

abbrev C_require_point : C0 := CLD 1 N_require_point t_require_point

theorem u_require_point {x0 : D} {P : D → Prop} (h : t_require_point { nx := fun _ => P .none, rt := fun d _ => P d } [.im x0]) : C_require_point [x0] P := CLD.of h

abbrev N_require_step : List Str := ["value"]
/-- require_step -/
def t_require_step : DSt :=
  (dIfS (dNot (dB (dCall C_is_step_in (dCons (dVar 0) dNil)))) dNever dPass)

abbrev C_require_step : C0 := CLD 1 N_require_step t_require_step

theorem u_require_step {x0 : D} {P : D → Prop} (h : t_require_step { nx := fun _ => P .none, rt := fun d _ => P d } [.im x0]) : C_require_step [x0] P := CLD.of h

abbrev N_require_points : List Str := ["points", "point"]
/-- require_points -/
def t_require_points : DSt :=
  (dFor (dItL (dVar 0)) (dgName 1) (dDrop (dCall C_require_point (dCons (dVar 1) dNil))))

abbrev C_require_points : C0 := CLD 1 N_require_points t_require_points

theorem u_require_points {x0 : D} {P : D → Prop} (h : t_require_points { nx := fun _ => P .none, rt := fun d _ => P d } [.im x0, .un]) : C_require_points [x0] P := CLD.of h

abbrev N_require_way : List Str := ["step"]
/-- require_way -/
def t_require_way : DSt :=
  (dSeq (dDrop (dCall C_require_step (dCons (dVar 0) dNil)))
  (dIfS (dB (dBin gEq (dVar 0) (dTup (dCons (dC (.int 0)) (dCons (dC (.int 0)) dNil))))) dNever dPass))

abbrev C_require_way : C0 := CLD 1 N_require_way t_require_way

theorem u_require_way {x0 : D} {P : D → Prop} (h : t_require_way { nx := fun _ => P .none, rt := fun d _ => P d } [.im x0]) : C_require_way [x0] P := CLD.of h

abbrev N_makers_of_divisor : List Str := ["one"]
/-- makers_of_divisor -/
def t_makers_of_divisor : DSt :=
  (dSeq (dDrop (dCall C_require_way (dCons (dVar 0) dNil)))
  (dRet (dCall C_makers_in (dCons (dBin gIx (dVar 0) (dC (.int 0))) (dCons (dBin gIx (dVar 0) (dC (.int 1))) dNil)))))

abbrev C_makers_of_divisor : C0 := CLD 1 N_makers_of_divisor t_makers_of_divisor

theorem u_makers_of_divisor {x0 : D} {P : D → Prop} (h : t_makers_of_divisor { nx := fun _ => P .none, rt := fun d _ => P d } [.im x0]) : C_makers_of_divisor [x0] P := CLD.of h

abbrev N_do_see : List Str := ["a", "b"]
/-- do_see -/
def t_do_see : DSt :=
  (dSeq (dDrop (dCall C_require_points (dCons (dLst (dCons (dVar 0) (dCons (dVar 1) dNil))) dNil)))
  (dRet (dBin gEq (dCall C_divisor_in (dCons (dCall C_step_in (dCons (dVar 0) (dCons (dVar 1) dNil))) dNil)) (dC (.int 1)))))

abbrev C_do_see : C0 := CLD 2 N_do_see t_do_see

theorem u_do_see {x0 x1 : D} {P : D → Prop} (h : t_do_see { nx := fun _ => P .none, rt := fun d _ => P d } [.im x0, .im x1]) : C_do_see [x0, x1] P := CLD.of h

abbrev N_prime_counts : List Str := ["n", "found", "left", "prime"]
/-- prime_counts -/
def t_prime_counts : DSt :=
  (dSeq (dParF3 1 2 3 dDNew (dVar 0) (dC (.int 2)))
  (dSeq (dWhile (dB (dBin gGt (dVar 2) (dC (.int 1)))) (dSeq (dWhile (dB (dBin gEq (dBin gMod (dVar 2) (dVar 3)) (dC (.int 0)))) (dSeq (dDPut 1 (dVar 3) (dBin gAdd (dDGet2 1 (dVar 3) (dC (.int 0))) (dC (.int 1))))
  (dAug 2 gDiv (dVar 3))))
  (dAug 3 gPlus (dC (.int 1)))))
  (dRet (dVar 1))))

abbrev C_prime_counts : C0 := CLD 1 N_prime_counts t_prime_counts

theorem u_prime_counts {x0 : D} {P : D → Prop} (h : t_prime_counts { nx := fun _ => P .none, rt := fun d _ => P d } [.im x0, .un, .un, .un]) : C_prime_counts [x0] P := CLD.of h

abbrev N_phi_in : List Str := ["n", "found", "prime"]
/-- phi_in -/
def t_phi_in : DSt :=
  (dSeq (dAsg (dVar 0) (dgName 1))
  (dSeq (dFor (dItK (dCall C_prime_counts (dCons (dVar 0) dNil))) (dgName 2) (dAsg (dBin gMul (dBin gDiv (dVar 1) (dVar 2)) (dBin gSub (dVar 2) (dC (.int 1)))) (dgName 1)))
  (dRet (dVar 1))))

abbrev C_phi_in : C0 := CLD 1 N_phi_in t_phi_in

theorem u_phi_in {x0 : D} {P : D → Prop} (h : t_phi_in { nx := fun _ => P .none, rt := fun d _ => P d } [.im x0, .un, .un]) : C_phi_in [x0] P := CLD.of h

abbrev N_farey_size_in : List Str := ["n", "bottom"]
/-- farey_size_in -/
def t_farey_size_in : DSt :=
  (dRet (dBin gAdd (dC (.int 1)) (dCallB gSum (dCons (dFrz (dComp (dRng2 (dCons (dC (.int 1)) (dCons (dBin gAdd (dVar 0) (dC (.int 1))) dNil))) (dgName 1) dYes (dCall C_phi_in (dCons (dVar 1) dNil)) [1])) dNil))))

abbrev C_farey_size_in : C0 := CLD 1 N_farey_size_in t_farey_size_in

theorem u_farey_size_in {x0 : D} {P : D → Prop} (h : t_farey_size_in { nx := fun _ => P .none, rt := fun d _ => P d } [.im x0, .un]) : C_farey_size_in [x0] P := CLD.of h

abbrev N_farey_row_in : List Str := ["n", "found", "a", "b", "c", "d", "times"]
/-- farey_row_in -/
def t_farey_row_in : DSt :=
  (dSeq (dAsgF (dFLst (dCons (dTup (dCons (dC (.int 0)) (dCons (dC (.int 1)) dNil))) (dCons (dTup (dCons (dC (.int 1)) (dCons (dVar 0) dNil))) dNil))) 1)
  (dSeq (dWhile (dB (dBin gNe (dIxN 1 (dUn (fun i => .int (-i)) (dC (.int 1)))) (dTup (dCons (dC (.int 1)) (dCons (dC (.int 1)) dNil))))) (dSeq (dAsg (dSlN 1 (dOI (dUn (fun i => .int (-i)) (dC (.int 2)))) dONo) (dgLst 2 (dgCons (dgTup 2 (dgCons (dgName 2) (dgCons (dgName 3) dgNil))) (dgCons (dgTup 2 (dgCons (dgName 4) (dgCons (dgName 5) dgNil))) dgNil))))
  (dSeq (dAsg (dBin gDiv (dBin gAdd (dVar 0) (dVar 3)) (dVar 5)) (dgName 6))
  (dAppend 1 (dTup (dCons (dBin gSub (dBin gMul (dVar 6) (dVar 4)) (dVar 2)) (dCons (dBin gSub (dBin gMul (dVar 6) (dVar 5)) (dVar 3)) dNil)))))))
  (dRet (dVar 1))))

abbrev C_farey_row_in : C0 := CLD 1 N_farey_row_in t_farey_row_in

theorem u_farey_row_in {x0 : D} {P : D → Prop} (h : t_farey_row_in { nx := fun _ => P .none, rt := fun d _ => P d } [.im x0, .un, .un, .un, .un, .un, .un]) : C_farey_row_in [x0] P := CLD.of h

abbrev N_is_lowest : List Str := ["value", "number"]
/-- is_lowest -/
def t_is_lowest : DSt :=
  (dSeq (dIfS (dOr (dNot (dB (dCall C_is_pair (dCons (dVar 0) dNil)))) (dNot (dB (dCallB gAll (dCons (dFrz (dComp (dItT (dVar 0)) (dgName 1) dYes (dCall C_is_near (dCons (dVar 1) dNil)) [1])) dNil))))) (dRet (dC (.bool false))) dPass)
  (dRet (dAndV (dBin gGt (dBin gIx (dVar 0) (dC (.int 1))) (dC (.int 0))) (dBin gEq (dCall C_common_divisor (dCons (dBin gIx (dVar 0) (dC (.int 0))) (dCons (dBin gIx (dVar 0) (dC (.int 1))) dNil))) (dC (.int 1))))))

abbrev C_is_lowest : C0 := CLD 1 N_is_lowest t_is_lowest

theorem u_is_lowest {x0 : D} {P : D → Prop} (h : t_is_lowest { nx := fun _ => P .none, rt := fun d _ => P d } [.im x0, .un]) : C_is_lowest [x0] P := CLD.of h

abbrev N_is_in_row : List Str := ["n", "value"]
/-- is_in_row -/
def t_is_in_row : DSt :=
  (dRet (dAndV (dCall C_is_lowest (dCons (dVar 1) dNil)) (dChain3 gLe gLe gLe (dC (.int 0)) (dBin gIx (dVar 1) (dC (.int 0))) (dBin gIx (dVar 1) (dC (.int 1))) (dVar 0))))

abbrev C_is_in_row : C0 := CLD 2 N_is_in_row t_is_in_row

theorem u_is_in_row {x0 x1 : D} {P : D → Prop} (h : t_is_in_row { nx := fun _ => P .none, rt := fun d _ => P d } [.im x0, .im x1]) : C_is_in_row [x0, x1] P := CLD.of h

abbrev N_ahead_in_row : List Str := ["n", "value", "top", "bottom", "below", "b"]
/-- ahead_in_row -/
def t_ahead_in_row : DSt :=
  (dSeq (dAsg (dVar 1) (dgTup 2 (dgCons (dgName 2) (dgCons (dgName 3) dgNil))))
  (dSeq (dAsg (dFrz (dComp (dRng2 (dCons (dCallB gMax (dCons (dC (.int 1)) (dCons (dBin gAdd (dBin gSub (dVar 0) (dVar 3)) (dC (.int 1))) dNil))) (dCons (dBin gAdd (dVar 0) (dC (.int 1))) dNil))) (dgName 5) (dB (dBin gEq (dBin gMod (dBin gSub (dBin gMul (dVar 2) (dVar 5)) (dC (.int 1))) (dVar 3)) (dC (.int 0)))) (dVar 5) [5])) (dgName 4))
  (dRet (dTup (dCons (dBin gDiv (dBin gSub (dBin gMul (dVar 2) (dBin gIx (dVar 4) (dC (.int 0)))) (dC (.int 1))) (dVar 3)) (dCons (dBin gIx (dVar 4) (dC (.int 0))) dNil))))))

abbrev C_ahead_in_row : C0 := CLD 2 N_ahead_in_row t_ahead_in_row

theorem u_ahead_in_row {x0 x1 : D} {P : D → Prop} (h : t_ahead_in_row { nx := fun _ => P .none, rt := fun d _ => P d } [.im x0, .im x1, .un, .un, .un, .un]) : C_ahead_in_row [x0, x1] P := CLD.of h

abbrev N_neighbours_in_row : List Str := ["n", "value", "top", "bottom", "ahead", "mirrored"]
/-- neighbours_in_row -/
def t_neighbours_in_row : DSt :=
  (dSeq (dAsg (dVar 1) (dgTup 2 (dgCons (dgName 2) (dgCons (dgName 3) dgNil))))
  (dSeq (dAsg (dIf (dB (dBin gEq (dVar 2) (dC (.int 0)))) (dC .none) (dCall C_ahead_in_row (dCons (dVar 0) (dCons (dVar 1) dNil)))) (dgName 4))
  (dSeq (dIfS (dB (dBin gEq (dVar 2) (dVar 3))) (dRet (dTup (dCons (dVar 4) (dCons (dC .none) dNil)))) dPass)
  (dSeq (dAsg (dCall C_ahead_in_row (dCons (dVar 0) (dCons (dTup (dCons (dBin gSub (dVar 3) (dVar 2)) (dCons (dVar 3) dNil))) dNil))) (dgName 5))
  (dRet (dTup (dCons (dVar 4) (dCons (dTup (dCons (dBin gSub (dBin gIx (dVar 5) (dC (.int 1))) (dBin gIx (dVar 5) (dC (.int 0)))) (dCons (dBin gIx (dVar 5) (dC (.int 1))) dNil))) dNil))))))))

abbrev C_neighbours_in_row : C0 := CLD 2 N_neighbours_in_row t_neighbours_in_row

theorem u_neighbours_in_row {x0 x1 : D} {P : D → Prop} (h : t_neighbours_in_row { nx := fun _ => P .none, rt := fun d _ => P d } [.im x0, .im x1, .un, .un, .un, .un]) : C_neighbours_in_row [x0, x1] P := CLD.of h

abbrev N_simplest_in : List Str := ["one", "other", "a", "b", "c", "d", "row", "found", "whole", "left", "right", "bottom"]
/-- simplest_in -/
def t_simplest_in : DSt :=
  (dSeq (dAsg (dTup (dCons (dVar 0) (dCons (dVar 1) dNil))) (dgTup 2 (dgCons (dgTup 2 (dgCons (dgName 2) (dgCons (dgName 3) dgNil))) (dgCons (dgTup 2 (dgCons (dgName 4) (dgCons (dgName 5) dgNil))) dgNil))))
  (dSeq (dParF 6 7 (dFLst dNil) (dC .none))
  (dSeq (dWhile (dB (dBin gIsN (dVar 7) (dC .none))) (dSeq (dAsg (dBin gDiv (dVar 2) (dVar 3)) (dgName 8))
  (dSeq (dPar 9 10 (dCons (dBin gSub (dVar 2) (dBin gMul (dVar 8) (dVar 3))) (dCons (dBin gSub (dVar 4) (dBin gMul (dVar 8) (dVar 5))) dNil)))
  (dIfS (dB (dBin gLt (dBin gMul (dBin gAdd (dVar 8) (dC (.int 1))) (dVar 5)) (dVar 4))) (dAsg (dTup (dCons (dBin gAdd (dVar 8) (dC (.int 1))) (dCons (dC (.int 1)) dNil))) (dgName 7)) (dIfS (dB (dBin gEq (dVar 9) (dC (.int 0)))) (dSeq (dAsg (dBin gAdd (dBin gDiv (dVar 5) (dVar 10)) (dC (.int 1))) (dgName 11))
  (dAsg (dTup (dCons (dBin gAdd (dBin gMul (dVar 8) (dVar 11)) (dC (.int 1))) (dCons (dVar 11) dNil))) (dgName 7))) (dSeq (dAppend 6 (dVar 8))
  (dAsg (dTup (dCons (dVar 5) (dCons (dVar 10) (dCons (dVar 3) (dCons (dVar 9) dNil))))) (dgTup 4 (dgCons (dgName 2) (dgCons (dgName 3) (dgCons (dgName 4) (dgCons (dgName 5) dgNil))))))))))))
  (dSeq (dFor (dItL (dRevA (dVar 6))) (dgName 8) (dAsg (dTup (dCons (dBin gAdd (dBin gMul (dVar 8) (dBin gIx (dVar 7) (dC (.int 0)))) (dBin gIx (dVar 7) (dC (.int 1)))) (dCons (dBin gIx (dVar 7) (dC (.int 0))) dNil))) (dgName 7)))
  (dRet (dVar 7))))))

abbrev C_simplest_in : C0 := CLD 2 N_simplest_in t_simplest_in

theorem u_simplest_in {x0 x1 : D} {P : D → Prop} (h : t_simplest_in { nx := fun _ => P .none, rt := fun d _ => P d } [.im x0, .im x1, .un, .un, .un, .un, .un, .un, .un, .un, .un, .un]) : C_simplest_in [x0, x1] P := CLD.of h

abbrev N_require_count : List Str := ["n"]
/-- require_count -/
def t_require_count : DSt :=
  (dDrop (dCall C_require_number (dCons (dVar 0) (dCons (dC (.int 1)) (dCons (dC (.int 1000)) dNil)))))

abbrev C_require_count : C0 := CLD 1 N_require_count t_require_count

theorem u_require_count {x0 : D} {P : D → Prop} (h : t_require_count { nx := fun _ => P .none, rt := fun d _ => P d } [.im x0]) : C_require_count [x0] P := CLD.of h

abbrev N_phi : List Str := ["n"]
/-- phi -/
def t_phi : DSt :=
  (dSeq (dDrop (dCall C_require_count (dCons (dVar 0) dNil)))
  (dRet (dCall C_phi_in (dCons (dVar 0) dNil))))

abbrev C_phi : C0 := CLD 1 N_phi t_phi

theorem u_phi {x0 : D} {P : D → Prop} (h : t_phi { nx := fun _ => P .none, rt := fun d _ => P d } [.im x0]) : C_phi [x0] P := CLD.of h

abbrev N_farey_row : List Str := ["n"]
/-- farey_row -/
def t_farey_row : DSt :=
  (dSeq (dDrop (dCall C_require_count (dCons (dVar 0) dNil)))
  (dSeq (dIfS (dB (dBin gGt (dCall C_farey_size_in (dCons (dVar 0) dNil)) (dC (.int 5000)))) dNever dPass)
  (dRet (dCallB gTuple (dCons (dCall C_farey_row_in (dCons (dVar 0) dNil)) dNil)))))

abbrev C_farey_row : C0 := CLD 1 N_farey_row t_farey_row

theorem u_farey_row {x0 : D} {P : D → Prop} (h : t_farey_row { nx := fun _ => P .none, rt := fun d _ => P d } [.im x0]) : C_farey_row [x0] P := CLD.of h

abbrev N_farey_size : List Str := ["n"]
/-- farey_size -/
def t_farey_size : DSt :=
  (dSeq (dDrop (dCall C_require_count (dCons (dVar 0) dNil)))
  (dRet (dCall C_farey_size_in (dCons (dVar 0) dNil))))

abbrev C_farey_size : C0 := CLD 1 N_farey_size t_farey_size

theorem u_farey_size {x0 : D} {P : D → Prop} (h : t_farey_size { nx := fun _ => P .none, rt := fun d _ => P d } [.im x0]) : C_farey_size [x0] P := CLD.of h

abbrev N_farey_neighbours : List Str := ["n", "fraction"]
/-- farey_neighbours -/
def t_farey_neighbours : DSt :=
  (dSeq (dDrop (dCall C_require_count (dCons (dVar 0) dNil)))
  (dSeq (dIfS (dNot (dB (dCall C_is_in_row (dCons (dVar 0) (dCons (dVar 1) dNil))))) dNever dPass)
  (dRet (dCall C_neighbours_in_row (dCons (dVar 0) (dCons (dVar 1) dNil))))))

abbrev C_farey_neighbours : C0 := CLD 2 N_farey_neighbours t_farey_neighbours

theorem u_farey_neighbours {x0 x1 : D} {P : D → Prop} (h : t_farey_neighbours { nx := fun _ => P .none, rt := fun d _ => P d } [.im x0, .im x1]) : C_farey_neighbours [x0, x1] P := CLD.of h

abbrev N_simplest_between : List Str := ["one", "other"]
/-- simplest_between -/
def t_simplest_between : DSt :=
  (dSeq (dIfS (dOr (dNot (dB (dCall C_is_lowest (dCons (dVar 0) dNil)))) (dOr (dNot (dB (dCall C_is_lowest (dCons (dVar 1) dNil)))) (dB (dBin gGe (dBin gMul (dBin gIx (dVar 0) (dC (.int 0))) (dBin gIx (dVar 1) (dC (.int 1)))) (dBin gMul (dBin gIx (dVar 1) (dC (.int 0))) (dBin gIx (dVar 0) (dC (.int 1)))))))) dNever dPass)
  (dRet (dCall C_simplest_in (dCons (dVar 0) (dCons (dVar 1) dNil)))))

abbrev C_simplest_between : C0 := CLD 2 N_simplest_between t_simplest_between

theorem u_simplest_between {x0 x1 : D} {P : D → Prop} (h : t_simplest_between { nx := fun _ => P .none, rt := fun d _ => P d } [.im x0, .im x1]) : C_simplest_between [x0, x1] P := CLD.of h

abbrev N__law_dice : List Str := ["script", "spot", "cell", "great"]
/-- _law_dice -/
def t__law_dice : DSt :=
  (dSeq (dAsg (dIf (dB (dBin gLt (dVar 1) (dCallB gLen (dCons (dVar 0) dNil)))) (dCallB gInt (dCons (dBin gIx (dVar 0) (dVar 1)) dNil)) (dBin gAdd (dBin gMul (dC (.int 131)) (dVar 1)) (dC (.int 71)))) (dgName 2))
  (dSeq (dAsg (dBin gMod (dCallB gMax (dCons (dC (.int 0)) (dCons (dBin gSub (dCallB gAbs (dCons (dVar 2) dNil)) (dBin gPow (dC (.int 10)) (dC (.int 16)))) dNil))) (dBin gMul (dBin gPow (dC (.int 10)) (dC (.int 55))) (dBin gPow (dC (.int 10)) (dC (.int 55))))) (dgName 3))
  (dRetF (dFLst (dCons (dVar 3) (dCons (dBin gMod (dBin gAdd (dBin gAdd (dBin gMod (dCallB gAbs (dCons (dVar 2) dNil)) (dC (.int 18446744073709551557))) (dBin gMul (dC (.int 7919)) (dVar 1))) (dBin gMul (dC (.int 31)) (dCallB gInt (dCons (dBin gLt (dVar 2) (dC (.int 0))) dNil)))) (dC (.int 18446744073709551616))) dNil))))))

abbrev C__law_dice : CF := CLF 2 N__law_dice t__law_dice

theorem u__law_dice {x0 x1 : D} {P : Ow → Prop} (h : t__law_dice { nx := fun _ => False, rt := fun _ _ => False, rf := fun es _ => P es } [.im x0, .im x1, .un, .un]) : C__law_dice [x0, x1] P := CLF.of h

abbrev N__law_roll : List Str := ["dice", "total", "found"]
/-- _law_roll -/
def t__law_roll : DSt :=
  (dSeq (dIfS (dB (dBin gGt (dIxN 0 (dC (.int 0))) (dC (.int 0)))) (dSeq (dAsg (dCallB gInt (dCons (dBin gMod (dIxN 0 (dC (.int 0))) (dVar 1)) dNil)) (dgName 2))
  (dSeq (dSetIx 0 (dC (.int 0)) (dBin gDiv (dIxN 0 (dC (.int 0))) (dVar 1)))
  (dRet (dVar 2)))) dPass)
  (dSeq (dSetIx 0 (dC (.int 1)) (dBin gMod (dBin gAdd (dBin gMul (dIxN 0 (dC (.int 1))) (dC (.int 6364136223846793005))) (dC (.int 1442695040888963407))) (dC (.int 18446744073709551616))))
  (dRet (dBin gMod (dCallB gInt (dCons (dBin gDiv (dIxN 0 (dC (.int 1))) (dC (.int 4294967296))) dNil)) (dVar 1)))))

abbrev C__law_roll : C1 := CLB 2 N__law_roll t__law_roll

theorem u__law_roll {cs : Ow} {x1 : D} {P : D → Ow → Prop} (h : t__law_roll { nx := fun e => lentEnd P .none e, rt := lentEnd P } [.bo cs, .im x1, .un]) : C__law_roll cs [x1] P := CLB.of h

abbrev N__law_one_of : List Str := ["dice", "items"]
/-- _law_one_of -/
def t__law_one_of : DSt :=
  (dRet (dBin gIx (dVar 1) (dCallL 0 C__law_roll (dCons (dCallB gLen (dCons (dVar 1) dNil)) dNil))))

abbrev C__law_one_of : C1 := CLB 2 N__law_one_of t__law_one_of

theorem u__law_one_of {cs : Ow} {x1 : D} {P : D → Ow → Prop} (h : t__law_one_of { nx := fun e => lentEnd P .none e, rt := lentEnd P } [.bo cs, .im x1]) : C__law_one_of cs [x1] P := CLB.of h

abbrev N__law_common : List Str := ["one", "far"]
/-- _law_common -/
def t__law_common : DSt :=
  (dSeq (dPar 0 1 (dCons (dCallB gAbs (dCons (dVar 0) dNil)) (dCons (dCallB gAbs (dCons (dVar 1) dNil)) dNil)))
  (dSeq (dWhile (dB (dBin gNe (dVar 1) (dC (.int 0)))) (dPar 0 1 (dCons (dVar 1) (dCons (dBin gMod (dVar 0) (dVar 1)) dNil))))
  (dRet (dVar 0))))

abbrev C__law_common : C0 := CLD 2 N__law_common t__law_common

theorem u__law_common {x0 x1 : D} {P : D → Prop} (h : t__law_common { nx := fun _ => P .none, rt := fun d _ => P d } [.im x0, .im x1]) : C__law_common [x0, x1] P := CLD.of h

abbrev N__law_phi : List Str := ["n", "found", "left", "at"]
/-- _law_phi -/
def t__law_phi : DSt :=
  (dSeq (dPar3 1 2 3 (dCons (dVar 0) (dCons (dVar 0) (dCons (dC (.int 2)) dNil))))
  (dSeq (dWhile (dB (dBin gLe (dBin gMul (dVar 3) (dVar 3)) (dVar 2))) (dSeq (dIfS (dB (dBin gEq (dBin gMod (dVar 2) (dVar 3)) (dC (.int 0)))) (dSeq (dAsg (dBin gMul (dBin gDiv (dVar 1) (dVar 3)) (dBin gSub (dVar 3) (dC (.int 1)))) (dgName 1))
  (dWhile (dB (dBin gEq (dBin gMod (dVar 2) (dVar 3)) (dC (.int 0)))) (dAsg (dBin gDiv (dVar 2) (dVar 3)) (dgName 2)))) dPass)
  (dAsg (dBin gAdd (dVar 3) (dC (.int 1))) (dgName 3))))
  (dRet (dIf (dB (dBin gGt (dVar 2) (dC (.int 1)))) (dBin gMul (dBin gDiv (dVar 1) (dVar 2)) (dBin gSub (dVar 2) (dC (.int 1)))) (dVar 1)))))

abbrev C__law_phi : C0 := CLD 1 N__law_phi t__law_phi

theorem u__law_phi {x0 : D} {P : D → Prop} (h : t__law_phi { nx := fun _ => P .none, rt := fun d _ => P d } [.im x0, .un, .un, .un]) : C__law_phi [x0] P := CLD.of h

abbrev N__law_row_right : List Str := ["n", "row", "many", "k", "top", "down", "a", "b", "c", "d", "part"]
/-- _law_row_right -/
def t__law_row_right : DSt :=
  (dSeq (dPar 1 2 (dCons (dCall C_farey_row (dCons (dVar 0) dNil)) (dCons (dBin gAdd (dC (.int 1)) (dCallB gSum (dCons (dFrz (dComp (dRng2 (dCons (dC (.int 1)) (dCons (dBin gAdd (dVar 0) (dC (.int 1))) dNil))) (dgName 3) dYes (dCall C__law_phi (dCons (dVar 3) dNil)) [3])) dNil))) dNil)))
  (dSeq (dIfS (dOr (dB (dBin gNe (dCallB gLen (dCons (dVar 1) dNil)) (dVar 2))) (dOr (dB (dBin gNe (dCall C_farey_size (dCons (dVar 0) dNil)) (dVar 2))) (dOr (dB (dBin gNe (dBin gIx (dVar 1) (dC (.int 0))) (dTup (dCons (dC (.int 0)) (dCons (dC (.int 1)) dNil))))) (dB (dBin gNe (dBin gIx (dVar 1) (dUn (fun i => .int (-i)) (dC (.int 1)))) (dTup (dCons (dC (.int 1)) (dCons (dC (.int 1)) dNil)))))))) (dRet (dC (.bool false))) dPass)
  (dSeq (dAsg (dTup (dCons (dC (.int 0)) (dCons (dC (.int 1)) dNil))) (dgTup 2 (dgCons (dgName 4) (dgCons (dgName 5) dgNil))))
  (dSeq (dFor (dItZ (dCons (dVar 1) (dCons (dSl (dVar 1) (dOI (dC (.int 1))) dONo) dNil))) (dgTup 2 (dgCons (dgTup 2 (dgCons (dgName 6) (dgCons (dgName 7) dgNil))) (dgCons (dgTup 2 (dgCons (dgName 8) (dgCons (dgName 9) dgNil))) dgNil))) (dSeq (dIfS (dOr (dB (dBin gNe (dBin gSub (dBin gMul (dVar 7) (dVar 8)) (dBin gMul (dVar 6) (dVar 9))) (dC (.int 1)))) (dOr (dB (dBin gLe (dBin gAdd (dVar 7) (dVar 9)) (dVar 0))) (dB (dBin gGt (dCallB gMax (dCons (dVar 7) (dCons (dVar 9) dNil))) (dVar 0))))) (dRet (dC (.bool false))) dPass)
  (dSeq (dPar 4 5 (dCons (dBin gAdd (dBin gMul (dBin gMul (dVar 4) (dVar 7)) (dVar 9)) (dVar 5)) (dCons (dBin gMul (dBin gMul (dVar 5) (dVar 7)) (dVar 9)) dNil)))
  (dSeq (dAsg (dCall C__law_common (dCons (dVar 4) (dCons (dVar 5) dNil))) (dgName 10))
  (dPar 4 5 (dCons (dBin gDiv (dVar 4) (dVar 10)) (dCons (dBin gDiv (dVar 5) (dVar 10)) dNil)))))))
  (dSeq (dIfS (dB (dBin gNe (dTup (dCons (dVar 4) (dCons (dVar 5) dNil))) (dTup (dCons (dC (.int 1)) (dCons (dC (.int 1)) dNil))))) (dRet (dC (.bool false))) dPass)
  (dRet (dAndV (dBin gEq (dVar 1) (dCallB gTuple (dCons (dFrz (dComp (dItT (dRevA (dVar 1))) (dgTup 2 (dgCons (dgName 6) (dgCons (dgName 7) dgNil))) dYes (dTup (dCons (dBin gSub (dVar 7) (dVar 6)) (dCons (dVar 7) dNil))) [6, 7])) dNil))) (dBin gEq (dFrz (dComp (dRng2 (dCons (dC (.int 1)) (dCons (dBin gAdd (dVar 0) (dC (.int 1))) dNil))) (dgName 3) dYes (dCall C_phi (dCons (dVar 3) dNil)) [3])) (dFrz (dComp (dRng2 (dCons (dC (.int 1)) (dCons (dBin gAdd (dVar 0) (dC (.int 1))) dNil))) (dgName 3) dYes (dCall C__law_phi (dCons (dVar 3) dNil)) [3]))))))))))

abbrev C__law_row_right : C0 := CLD 1 N__law_row_right t__law_row_right

theorem u__law_row_right {x0 : D} {P : D → Prop} (h : t__law_row_right { nx := fun _ => P .none, rt := fun d _ => P d } [.im x0, .un, .un, .un, .un, .un, .un, .un, .un, .un, .un]) : C__law_row_right [x0] P := CLD.of h

abbrev N__law_undone : List Str := ["a", "n", "here", "there", "one", "far", "many"]
/-- _law_undone -/
def t__law_undone : DSt :=
  (dSeq (dAsg (dTup (dCons (dBin gMod (dVar 0) (dVar 1)) (dCons (dVar 1) (dCons (dC (.int 1)) (dCons (dC (.int 0)) dNil))))) (dgTup 4 (dgCons (dgName 2) (dgCons (dgName 3) (dgCons (dgName 4) (dgCons (dgName 5) dgNil))))))
  (dSeq (dWhile (dB (dBin gNe (dVar 2) (dC (.int 0)))) (dSeq (dAsg (dBin gDiv (dVar 3) (dVar 2)) (dgName 6))
  (dAsg (dTup (dCons (dBin gSub (dVar 3) (dBin gMul (dVar 6) (dVar 2))) (dCons (dVar 2) (dCons (dBin gSub (dVar 5) (dBin gMul (dVar 6) (dVar 4))) (dCons (dVar 4) dNil))))) (dgTup 4 (dgCons (dgName 2) (dgCons (dgName 3) (dgCons (dgName 4) (dgCons (dgName 5) dgNil))))))))
  (dRet (dBin gMod (dVar 5) (dVar 1)))))

abbrev C__law_undone : C0 := CLD 2 N__law_undone t__law_undone

theorem u__law_undone {x0 x1 : D} {P : D → Prop} (h : t__law_undone { nx := fun _ => P .none, rt := fun d _ => P d } [.im x0, .im x1, .un, .un, .un, .un, .un]) : C__law_undone [x0, x1] P := CLD.of h

abbrev N__law_neighbours : List Str := ["n", "a", "b", "low", "d", "c", "h"]
/-- _law_neighbours -/
def t__law_neighbours : DSt :=
  (dSeq (dAsg (dIf (dB (dBin gGt (dVar 2) (dC (.int 1)))) (dCall C__law_undone (dCons (dVar 1) (dCons (dVar 2) dNil))) (dC (.int 0))) (dgName 3))
  (dSeq (dAsg (dBin gSub (dVar 0) (dBin gMod (dBin gSub (dVar 0) (dVar 3)) (dVar 2))) (dgName 4))
  (dSeq (dAsg (dBin gDiv (dBin gSub (dBin gMul (dVar 1) (dVar 4)) (dC (.int 1))) (dVar 2)) (dgName 5))
  (dSeq (dAsg (dBin gSub (dVar 0) (dBin gMod (dBin gAdd (dVar 0) (dVar 3)) (dVar 2))) (dgName 6))
  (dRet (dTup (dCons (dTup (dCons (dVar 5) (dCons (dVar 4) dNil))) (dCons (dTup (dCons (dBin gDiv (dBin gAdd (dBin gMul (dVar 1) (dVar 6)) (dC (.int 1))) (dVar 2)) (dCons (dVar 6) dNil))) dNil))))))))

abbrev C__law_neighbours : C0 := CLD 3 N__law_neighbours t__law_neighbours

theorem u__law_neighbours {x0 x1 x2 : D} {P : D → Prop} (h : t__law_neighbours { nx := fun _ => P .none, rt := fun d _ => P d } [.im x0, .im x1, .im x2, .un, .un, .un, .un]) : C__law_neighbours [x0, x1, x2] P := CLD.of h

abbrev N__law_neighbours_right : List Str := ["dice", "n", "b", "a", "part", "c", "d", "g", "h"]
/-- _law_neighbours_right -/
def t__law_neighbours_right : DSt :=
  (dSeq (dAsg (dBin gAdd (dC (.int 2)) (dCallL 0 C__law_roll (dCons (dCallL 0 C__law_one_of (dCons (dLst (dCons (dC (.int 8)) (dCons (dC (.int 100)) (dCons (dC (.int 999)) dNil)))) dNil)) dNil))) (dgName 1))
  (dSeq (dAsg (dBin gAdd (dC (.int 2)) (dCallL 0 C__law_roll (dCons (dBin gSub (dVar 1) (dC (.int 1))) dNil))) (dgName 2))
  (dSeq (dAsg (dBin gAdd (dC (.int 1)) (dCallL 0 C__law_roll (dCons (dBin gSub (dVar 2) (dC (.int 1))) dNil))) (dgName 3))
  (dSeq (dAsg (dCall C__law_common (dCons (dVar 3) (dCons (dVar 2) dNil))) (dgName 4))
  (dSeq (dPar 3 2 (dCons (dBin gDiv (dVar 3) (dVar 4)) (dCons (dBin gDiv (dVar 2) (dVar 4)) dNil)))
  (dSeq (dIfS (dOr (dB (dBin gNe (dCall C_farey_neighbours (dCons (dVar 1) (dCons (dTup (dCons (dVar 3) (dCons (dVar 2) dNil))) dNil))) (dCall C__law_neighbours (dCons (dVar 1) (dCons (dVar 3) (dCons (dVar 2) dNil)))))) (dOr (dB (dBin gNe (dCall C_farey_neighbours (dCons (dVar 1) (dCons (dTup (dCons (dC (.int 0)) (dCons (dC (.int 1)) dNil))) dNil))) (dTup (dCons (dC .none) (dCons (dTup (dCons (dC (.int 1)) (dCons (dVar 1) dNil))) dNil))))) (dB (dBin gNe (dCall C_farey_neighbours (dCons (dVar 1) (dCons (dTup (dCons (dC (.int 1)) (dCons (dC (.int 1)) dNil))) dNil))) (dTup (dCons (dTup (dCons (dBin gSub (dVar 1) (dC (.int 1))) (dCons (dVar 1) dNil))) (dCons (dC .none) dNil))))))) (dRet (dC (.bool false))) dPass)
  (dSeq (dAsg (dCall C_farey_neighbours (dCons (dVar 1) (dCons (dTup (dCons (dVar 3) (dCons (dVar 2) dNil))) dNil))) (dgTup 2 (dgCons (dgTup 2 (dgCons (dgName 5) (dgCons (dgName 6) dgNil))) (dgCons (dgTup 2 (dgCons (dgName 7) (dgCons (dgName 8) dgNil))) dgNil))))
  (dSeq (dIfS (dOr (dB (dBin gNe (dBin gSub (dBin gMul (dVar 3) (dVar 6)) (dBin gMul (dVar 2) (dVar 5))) (dC (.int 1)))) (dOr (dB (dBin gNe (dBin gSub (dBin gMul (dVar 2) (dVar 7)) (dBin gMul (dVar 3) (dVar 8))) (dC (.int 1)))) (dOr (dB (dBin gNe (dBin gMul (dBin gAdd (dVar 5) (dVar 7)) (dVar 2)) (dBin gMul (dVar 3) (dBin gAdd (dVar 6) (dVar 8))))) (dB (dBin gNe (dBin gIx (dCall C_farey_neighbours (dCons (dVar 1) (dCons (dTup (dCons (dVar 5) (dCons (dVar 6) dNil))) dNil))) (dC (.int 1))) (dTup (dCons (dVar 3) (dCons (dVar 2) dNil)))))))) (dRet (dC (.bool false))) dPass)
  (dSeq (dIfS (dOr (dB (dBin gNe (dCall C_simplest_between (dCons (dTup (dCons (dVar 5) (dCons (dVar 6) dNil))) (dCons (dTup (dCons (dVar 3) (dCons (dVar 2) dNil))) dNil))) (dTup (dCons (dBin gAdd (dVar 3) (dVar 5)) (dCons (dBin gAdd (dVar 2) (dVar 6)) dNil))))) (dOr (dB (dBin gNe (dCall C_simplest_between (dCons (dTup (dCons (dVar 3) (dCons (dVar 2) dNil))) (dCons (dTup (dCons (dVar 7) (dCons (dVar 8) dNil))) dNil))) (dTup (dCons (dBin gAdd (dVar 3) (dVar 7)) (dCons (dBin gAdd (dVar 2) (dVar 8)) dNil))))) (dB (dBin gGt (dBin gIx (dCall C_simplest_between (dCons (dTup (dCons (dVar 5) (dCons (dVar 6) dNil))) (dCons (dTup (dCons (dVar 7) (dCons (dVar 8) dNil))) dNil))) (dC (.int 1))) (dVar 2))))) (dRet (dC (.bool false))) dPass)
  (dRet (dAndV (dBin gIsB (dCall C_do_see (dCons (dTup (dCons (dC (.int 0)) (dCons (dC (.int 0)) dNil))) (dCons (dTup (dCons (dVar 3) (dCons (dVar 2) dNil))) dNil))) (dC (.bool true))) (dOrV (dBin gGt (dBin gAdd (dVar 2) (dVar 6)) (dC (.int 1000))) (dBin gIsB (dCall C_do_see (dCons (dTup (dCons (dVar 5) (dCons (dVar 6) dNil))) (dCons (dTup (dCons (dBin gAdd (dVar 3) (dVar 5)) (dCons (dBin gAdd (dVar 2) (dVar 6)) dNil))) dNil))) (dC (.bool true)))))))))))))))

abbrev C__law_neighbours_right : C1 := CLB 1 N__law_neighbours_right t__law_neighbours_right

theorem u__law_neighbours_right {cs : Ow} {P : D → Ow → Prop} (h : t__law_neighbours_right { nx := fun e => lentEnd P .none e, rt := lentEnd P } [.bo cs, .un, .un, .un, .un, .un, .un, .un, .un]) : C__law_neighbours_right cs [] P := CLB.of h

abbrev N__law_turned : List Str := ["one", "far", "a", "b", "c", "d", "whole", "low", "top", "down"]
/-- _law_turned -/
def t__law_turned (C__law_turned : C0) : DSt :=
  (dSeq (dAsg (dTup (dCons (dVar 0) (dCons (dVar 1) dNil))) (dgTup 2 (dgCons (dgTup 2 (dgCons (dgName 2) (dgCons (dgName 3) dgNil))) (dgCons (dgTup 2 (dgCons (dgName 4) (dgCons (dgName 5) dgNil))) dgNil))))
  (dSeq (dAsg (dBin gDiv (dVar 2) (dVar 3)) (dgName 6))
  (dSeq (dIfS (dB (dBin gLt (dBin gMul (dBin gAdd (dVar 6) (dC (.int 1))) (dVar 5)) (dVar 4))) (dRet (dTup (dCons (dBin gAdd (dVar 6) (dC (.int 1))) (dCons (dC (.int 1)) dNil)))) dPass)
  (dSeq (dPar 2 4 (dCons (dBin gSub (dVar 2) (dBin gMul (dVar 6) (dVar 3))) (dCons (dBin gSub (dVar 4) (dBin gMul (dVar 6) (dVar 5))) dNil)))
  (dSeq (dIfS (dB (dBin gEq (dVar 2) (dC (.int 0)))) (dSeq (dAsg (dBin gAdd (dBin gDiv (dVar 5) (dVar 4)) (dC (.int 1))) (dgName 7))
  (dRet (dTup (dCons (dBin gAdd (dBin gMul (dVar 6) (dVar 7)) (dC (.int 1))) (dCons (dVar 7) dNil))))) dPass)
  (dSeq (dAsg (dCall C__law_turned (dCons (dTup (dCons (dVar 5) (dCons (dVar 4) dNil))) (dCons (dTup (dCons (dVar 3) (dCons (dVar 2) dNil))) dNil))) (dgTup 2 (dgCons (dgName 8) (dgCons (dgName 9) dgNil))))
  (dRet (dTup (dCons (dBin gAdd (dBin gMul (dVar 6) (dVar 8)) (dVar 9)) (dCons (dVar 8) dNil))))))))))

def R__law_turned : Nat → C0
  | 0 => fun _ _ => False
  | k + 1 => CLD 2 N__law_turned (t__law_turned (R__law_turned k))
abbrev C__law_turned : C0 := R__law_turned 225
theorem m__law_turned : ∀ k, Mono0 (R__law_turned k)
  | 0 => fun _ _ _ _ h => h
  | _ + 1 => cld_mono
theorem u__law_turned {k : Nat} {x0 x1 : D} {P : D → Prop} (h : t__law_turned (R__law_turned k) { nx := fun _ => P .none, rt := fun d _ => P d } [.im x0, .im x1, .un, .un, .un, .un, .un, .un, .un, .un]) : R__law_turned (k + 1) [x0, x1] P := CLD.of h

abbrev N__law_simplest : List Str := ["one", "far", "a", "b", "c", "d", "whole", "top", "down"]
/-- _law_simplest -/
def t__law_simplest : DSt :=
  (dSeq (dAsg (dTup (dCons (dVar 0) (dCons (dVar 1) dNil))) (dgTup 2 (dgCons (dgTup 2 (dgCons (dgName 2) (dgCons (dgName 3) dgNil))) (dgCons (dgTup 2 (dgCons (dgName 4) (dgCons (dgName 5) dgNil))) dgNil))))
  (dSeq (dAsg (dBin gDiv (dVar 2) (dVar 3)) (dgName 6))
  (dSeq (dIfS (dB (dBin gLt (dBin gMul (dBin gAdd (dVar 6) (dC (.int 1))) (dVar 5)) (dVar 4))) (dRet (dTup (dCons (dBin gAdd (dVar 6) (dC (.int 1))) (dCons (dC (.int 1)) dNil)))) dPass)
  (dSeq (dPar 2 4 (dCons (dBin gSub (dVar 2) (dBin gMul (dVar 6) (dVar 3))) (dCons (dBin gSub (dVar 4) (dBin gMul (dVar 6) (dVar 5))) dNil)))
  (dSeq (dIfS (dB (dBin gEq (dVar 2) (dC (.int 0)))) (dRet (dTup (dCons (dBin gAdd (dBin gMul (dVar 6) (dBin gAdd (dBin gDiv (dVar 5) (dVar 4)) (dC (.int 1)))) (dC (.int 1))) (dCons (dBin gAdd (dBin gDiv (dVar 5) (dVar 4)) (dC (.int 1))) dNil)))) dPass)
  (dSeq (dAsg (dCall C__law_turned (dCons (dTup (dCons (dVar 5) (dCons (dVar 4) dNil))) (dCons (dTup (dCons (dVar 3) (dCons (dVar 2) dNil))) dNil))) (dgTup 2 (dgCons (dgName 7) (dgCons (dgName 8) dgNil))))
  (dRet (dTup (dCons (dBin gAdd (dBin gMul (dVar 6) (dVar 7)) (dVar 8)) (dCons (dVar 7) dNil))))))))))

abbrev C__law_simplest : C0 := CLD 2 N__law_simplest t__law_simplest

theorem u__law_simplest {x0 x1 : D} {P : D → Prop} (h : t__law_simplest { nx := fun _ => P .none, rt := fun d _ => P d } [.im x0, .im x1, .un, .un, .un, .un, .un, .un, .un]) : C__law_simplest [x0, x1] P := CLD.of h

abbrev N__law_simplest_right : List Str := ["dice", "wide", "great", "pairs", "turn", "b", "a", "part", "c", "d", "one", "far", "told", "p", "q", "bottom"]
/-- _law_simplest_right -/
def t__law_simplest_right : DSt :=
  (dSeq (dAsg (dCallL 0 C__law_one_of (dCons (dLst (dCons (dC (.int 9)) (dCons (dC (.int 60)) (dCons (dBin gPow (dC (.int 10)) (dC (.int 9))) dNil)))) dNil)) (dgName 1))
  (dSeq (dAsg (dCallL 0 C__law_one_of (dCons (dLst (dCons (dC (.int 0)) (dCons (dC (.int 0)) (dCons (dBin gPow (dC (.int 10)) (dC (.int 40))) dNil)))) dNil)) (dgName 2))
  (dSeq (dAsgF (dFLst dNil) 3)
  (dSeq (dFor (dRng1 (dCons (dC (.int 2)) dNil)) (dgName 4) (dSeq (dAsg (dBin gAdd (dBin gAdd (dC (.int 1)) (dCallL 0 C__law_roll (dCons (dVar 1) dNil))) (dVar 2)) (dgName 5))
  (dSeq (dAsg (dBin gAdd (dBin gSub (dCallL 0 C__law_roll (dCons (dBin gMul (dC (.int 3)) (dVar 1)) dNil)) (dVar 1)) (dIf (dB (dBin gGt (dVar 2) (dC (.int 0)))) (dBin gDiv (dVar 2) (dC (.int 3))) (dC (.int 0)))) (dgName 6))
  (dSeq (dAsg (dCall C__law_common (dCons (dVar 6) (dCons (dVar 5) dNil))) (dgName 7))
  (dAppend 3 (dTup (dCons (dBin gDiv (dVar 6) (dVar 7)) (dCons (dBin gDiv (dVar 5) (dVar 7)) dNil))))))))
  (dSeq (dAsg (dVar 3) (dgLst 2 (dgCons (dgTup 2 (dgCons (dgName 6) (dgCons (dgName 5) dgNil))) (dgCons (dgTup 2 (dgCons (dgName 8) (dgCons (dgName 9) dgNil))) dgNil))))
  (dSeq (dIfS (dB (dBin gEq (dBin gMul (dVar 6) (dVar 9)) (dBin gMul (dVar 5) (dVar 8)))) (dRet (dC (.bool true))) dPass)
  (dSeq (dAsg (dIf (dB (dBin gLt (dBin gMul (dVar 6) (dVar 9)) (dBin gMul (dVar 5) (dVar 8)))) (dTup (dCons (dIxN 3 (dC (.int 0))) (dCons (dIxN 3 (dC (.int 1))) dNil))) (dTup (dCons (dIxN 3 (dC (.int 1))) (dCons (dIxN 3 (dC (.int 0))) dNil)))) (dgTup 2 (dgCons (dgName 10) (dgCons (dgName 11) dgNil))))
  (dSeq (dAsg (dCall C_simplest_between (dCons (dVar 10) (dCons (dVar 11) dNil))) (dgName 12))
  (dSeq (dAsg (dVar 12) (dgTup 2 (dgCons (dgName 13) (dgCons (dgName 14) dgNil))))
  (dSeq (dIfS (dOr (dB (dBin gNe (dVar 12) (dCall C__law_simplest (dCons (dVar 10) (dCons (dVar 11) dNil))))) (dOr (dNot (dAnd (dB (dBin gLt (dBin gMul (dBin gIx (dVar 10) (dC (.int 0))) (dVar 14)) (dBin gMul (dVar 13) (dBin gIx (dVar 10) (dC (.int 1)))))) (dB (dBin gLt (dBin gMul (dVar 13) (dBin gIx (dVar 11) (dC (.int 1)))) (dBin gMul (dBin gIx (dVar 11) (dC (.int 0))) (dVar 14)))))) (dB (dBin gNe (dCall C__law_common (dCons (dVar 13) (dCons (dVar 14) dNil))) (dC (.int 1)))))) (dRet (dC (.bool false))) dPass)
  (dSeq (dIfS (dB (dBin gGt (dVar 14) (dC (.int 300)))) (dRet (dC (.bool true))) dPass)
  (dSeq (dFor (dRng2 (dCons (dC (.int 1)) (dCons (dVar 14) dNil))) (dgName 15) (dIfS (dB (dBin gLt (dBin gMul (dBin gAdd (dBin gDiv (dBin gMul (dBin gIx (dVar 10) (dC (.int 0))) (dVar 15)) (dBin gIx (dVar 10) (dC (.int 1)))) (dC (.int 1))) (dBin gIx (dVar 11) (dC (.int 1)))) (dBin gMul (dBin gIx (dVar 11) (dC (.int 0))) (dVar 15)))) (dRet (dC (.bool false))) dPass))
  (dRet (dBin gEq (dBin gAdd (dBin gDiv (dBin gMul (dBin gIx (dVar 10) (dC (.int 0))) (dVar 14)) (dBin gIx (dVar 10) (dC (.int 1)))) (dC (.int 1))) (dVar 13)))))))))))))))

abbrev C__law_simplest_right : C1 := CLB 1 N__law_simplest_right t__law_simplest_right

theorem u__law_simplest_right {cs : Ow} {P : D → Ow → Prop} (h : t__law_simplest_right { nx := fun e => lentEnd P .none e, rt := lentEnd P } [.bo cs, .un, .un, .un, .un, .un, .un, .un, .un, .un, .un, .un, .un, .un, .un, .un]) : C__law_simplest_right cs [] P := CLB.of h

abbrev N_law : List Str := ["script", "spot", "dice", "p", "q"]
/-- law -/
def t_law : DSt :=
  (dSeq (dFor (dRng1 (dCons (dCallB gMax (dCons (dC (.int 1)) (dCons (dCallB gMin (dCons (dC (.int 2)) (dCons (dCallB gLen (dCons (dVar 0) dNil)) dNil))) dNil))) dNil)) (dgName 1) (dSeq (dAsgF (dFCall C__law_dice (dCons (dVar 0) (dCons (dVar 1) dNil))) 2)
  (dSeq (dIfS (dOr (dNot (dB (dCall C__law_row_right (dCons (dBin gAdd (dC (.int 1)) (dCallL 2 C__law_roll (dCons (dCallL 2 C__law_one_of (dCons (dLst (dCons (dC (.int 9)) (dCons (dC (.int 90)) dNil))) dNil)) dNil))) dNil)))) (dOr (dNot (dB (dCallL 2 C__law_neighbours_right dNil))) (dNot (dB (dCallL 2 C__law_neighbours_right dNil))))) (dRet (dC (.bool false))) dPass)
  (dIfS (dOr (dNot (dB (dCallL 2 C__law_simplest_right dNil))) (dOr (dNot (dB (dCallL 2 C__law_simplest_right dNil))) (dNot (dB (dCallL 2 C__law_simplest_right dNil))))) (dRet (dC (.bool false))) dPass))))
  (dSeq (dAsg (dCall C_makers_of_divisor (dCons (dTup (dCons (dC (.int 355)) (dCons (dC (.int 113)) dNil))) dNil)) (dgTup 2 (dgCons (dgName 3) (dgCons (dgName 4) dgNil))))
  (dRet (dAndV (dBin gEq (dBin gAdd (dBin gMul (dC (.int 355)) (dVar 3)) (dBin gMul (dC (.int 113)) (dVar 4))) (dC (.int 1))) (dAndV (dBin gEq (dCall C_simplest_between (dCons (dTup (dCons (dC (.int 3)) (dCons (dC (.int 1)) dNil))) (dCons (dTup (dCons (dC (.int 22)) (dCons (dC (.int 7)) dNil))) dNil))) (dTup (dCons (dC (.int 25)) (dCons (dC (.int 8)) dNil)))) (dAndV (dBin gEq (dCall C_simplest_between (dCons (dTup (dCons (dC (.int 314)) (dCons (dC (.int 1)) dNil))) (dCons (dTup (dCons (dC (.int 315)) (dCons (dC (.int 1)) dNil))) dNil))) (dTup (dCons (dC (.int 629)) (dCons (dC (.int 2)) dNil)))) (dBin gEq (dCall C_farey_size (dCons (dC (.int 1000)) dNil)) (dC (.int 304193)))))))))

abbrev C_law : C0 := CLD 1 N_law t_law

theorem u_law {x0 : D} {P : D → Prop} (h : t_law { nx := fun _ => P .none, rt := fun d _ => P d } [.im x0, .un, .un, .un, .un]) : C_law [x0] P := CLD.of h

end Nk07

namespace Nk07
open PySem PySem.Spec PyProof.Rows L2 DL
theorem sp_is_whole {x : Int} {P : D → Prop} (h : P (.bool true)) : C_is_whole [.int x] P := by
  refine u_is_whole ?_
  simp [t_is_whole, h]
theorem sp_is_near {x : Int} {P : D → Prop} (h1 : -FAR < x) (h2 : x < FAR) (h : P (.bool true)) : C_is_near [.int x] P := by
  refine u_is_near ?_
  simp [t_is_near]
  refine sp_is_whole ?_
  simp [h1, h2, h]
theorem sp_require_number {x l m : Int} {P : D → Prop} (h1 : -FAR < x) (h2 : x < FAR) (h3 : l ≤ x) (h4 : x ≤ m) (h : P .none) : C_require_number [.int x, .int l, .int m] P := by
  refine u_require_number ?_
  simp [t_require_number]
  refine sp_is_near h1 h2 ?_
  simp [h3, h4, h]

theorem sp_common_divisor {x y : Int} {P : D → Prop} (h : P (.int (Int.gcd x y : Nat))) : C_common_divisor [.int x, .int y] P := by
  refine u_common_divisor ?_
  simp [t_common_divisor]
  refine while_by (fun m e => ∃ l r : Int, e = [.im (.int x), .im (.int y), .im (.int l), .im (.int r)] ∧ 0 ≤ l ∧ 0 ≤ r ∧ r.toNat = m ∧ Int.gcd l r = Int.gcd x y) ⟨_, _, _, rfl, ?_, ?_, rfl, ?_⟩ ?_
  · split <;> omega
  · split <;> omega
  · split <;> split <;> simp
  · rintro m e ⟨l, r, rfl, hl, hr, rfl, hg⟩
    simp
    split
    · next hz =>
      subst hz
      rw [← hg] at h
      simp at h
      have e : ((l.natAbs : Nat) : Int) = l := by omega
      rw [e] at h
      exact h
    · next hz =>
      have := Int.emod_lt_of_pos l (show 0 < r by omega)
      have := Int.emod_nonneg l hz
      refine ⟨by omega, _, ?_, _, _, ⟨rfl, rfl⟩, hr, ?_, rfl, ?_⟩
      · omega
      · omega
      · rw [gcd_step hl (by omega), hg]
theorem sp_law_common {x y : Int} {P : D → Prop} (h : P (.int (Int.gcd x y : Nat))) : C__law_common [.int x, .int y] P := by
  refine u__law_common ?_
  simp [t__law_common]
  refine while_by (fun m e => ∃ l r : Int, e = [.im (.int l), .im (.int r)] ∧ 0 ≤ l ∧ 0 ≤ r ∧ r.toNat = m ∧ Int.gcd l r = Int.gcd x y) ⟨_, _, _, rfl, ?_, ?_, rfl, ?_⟩ ?_
  · split <;> omega
  · split <;> omega
  · split <;> split <;> simp
  · rintro m e ⟨l, r, rfl, hl, hr, rfl, hg⟩
    simp
    split
    · next hz =>
      subst hz
      rw [← hg] at h
      simp at h
      have e : ((l.natAbs : Nat) : Int) = l := by omega
      rw [e] at h
      exact h
    · next hz =>
      have := Int.emod_lt_of_pos l (show 0 < r by omega)
      have := Int.emod_nonneg l hz
      refine ⟨by omega, _, ?_, _, _, ⟨rfl, rfl⟩, hr, ?_, rfl, ?_⟩
      · omega
      · omega
      · rw [gcd_step hl (by omega), hg]
theorem sp_makers_in {a b : Int} {P : D → Prop} (ha : 0 < a) (hb : 0 < b) (h1 : Bd 101 a) (h2 : Bd 101 b)
    (h : ∀ x y : Int, x * a + y * b = (Int.gcd a b : Nat) → Bd 101 x → Bd 101 y → P (.tuple [.int x, .int y])) : C_makers_in [.int a, .int b] P := by
  refine u_makers_in ?_
  simp [t_makers_in]
  refine while_by (fun m e => ∃ (l r u1 u2 v1 v2 : Int) (z : Sl), e = [.im (.int a), .im (.int b), .im (.tuple [.int u1, .int u2]), .im (.tuple [.int v1, .int v2]), .im (.int l), .im (.int r), z] ∧ r.toNat = m ∧ MkI a b l r u1 u2 v1 v2) ⟨_, a, b, 1, 0, 0, 1, _, rfl, rfl, ⟨ha, by omega, rfl, by omega, by omega, ⟨.inl ⟨by omega, by omega, by omega⟩⟩, ⟨.inr ⟨by omega, by omega, by omega⟩⟩, bd1, bd0, h1, h2⟩⟩ ?_
  rintro m e ⟨l, r, u1, u2, v1, v2, z, rfl, rfl, I⟩
  simp
  split
  · next hz =>
    subst hz
    simp [I.hl]
    refine h u1 u2 ?_ I.B1 I.B2
    rw [I.i1, ← I.hg]
    have := I.hl
    simp
    omega
  · next hz =>
    have hr := I.hr
    have hz : 0 < r := by omega
    have J := I.step h1 h2 hz
    have bt := I.bt hz
    have ml := MkI.lt (Int.le_of_lt I.hl) hz
    refine ⟨divB hz I.B4 (by omega), mulB bt I.B4 (by omega) (by omega), mulB bt J.B1 (by omega) (by omega), mulB bt J.B2 (by omega) (by omega), _, ?_, _, _, _, _, _, _, ⟨⟨rfl, rfl⟩, ⟨rfl, rfl⟩, rfl, rfl⟩, rfl, J⟩
    omega
theorem sp_roll {cs : Ow} {t : Int} {P : D → Ow → Prop} (hd : Dice cs) (ht : 0 < t) (hb : t ≤ 10 ^ 12) (h : ∀ (r : Int) cs', 0 ≤ r → r < t → Dice cs' → P (.int r) cs') : C__law_roll cs [.int t] P := by
  obtain ⟨g, s, rfl, g0, g1, s0, s1⟩ := hd
  have tb : Bd 101 t := bdI (by omega)
  refine u__law_roll ?_
  simp [t__law_roll]
  by_cases c : 0 < g
  · rw [if_pos c]
    refine ⟨ht, divB ht tb (by omega), h _ _ (Int.emod_nonneg _ (by omega)) (Int.emod_lt_of_pos _ ht) ⟨_, _, rfl, Int.ediv_nonneg g0 (by omega), ?_, s0, s1⟩⟩
    have := Int.ediv_le_self t g0
    omega
  · rw [if_neg c]
    have m1 := Int.emod_lt_of_pos (s * 6364136223846793005 + 1442695040888963407) (show (0 : Int) < 18446744073709551616 by decide)
    have m2 := Int.emod_nonneg (s * 6364136223846793005 + 1442695040888963407) (show (18446744073709551616 : Int) ≠ 0 by decide)
    refine ⟨mulB (bd_s s0 s1) (k := 64) (m := 101) (by unfold Bd; decide) (by omega) (by omega), divB (k := 101) (by decide) (by unfold Bd; decide) (by omega), ht, h _ _ (Int.emod_nonneg _ (by omega)) (Int.emod_lt_of_pos _ ht) ⟨_, _, rfl, g0, g1, m2, by omega⟩⟩
theorem sp_one_of {cs : Ow} {items : List D} {P : D → Ow → Prop} (hd : Dice cs) (h0 : 0 < items.length) (hb : items.length ≤ 900) (h : ∀ (i : Nat) x cs', items[i]? = some x → Dice cs' → P x cs') : C__law_one_of cs [.list items] P := by
  refine u__law_one_of ?_
  simp [t__law_one_of]
  refine sp_roll hd (by omega) (by omega) fun r cs' r0 r1 hd' => ?_
  obtain ⟨i, rfl⟩ := Int.eq_ofNat_of_zero_le r0
  have hi : i < items.length := by omega
  simp
  rw [show atI items (i : Int) = some items[i] from atI_nat (List.getElem?_eq_getElem hi)]
  exact h i _ cs' (List.getElem?_eq_getElem hi) hd'
theorem sp_dice {ns : List Int} {s : Nat} {P : Ow → Prop} (hs : s ≤ 1) (h : ∀ cs, Dice cs → P cs) : C__law_dice [scriptOf ns, .int s] P := by
  refine u__law_dice ?_
  unfold t__law_dice scriptOf
  simp
  have p1 : CPow 10 16 := ⟨by decide, by decide, by decide⟩
  have p2 : CPow 10 55 := ⟨by decide, by decide, by decide⟩
  have m1 : CMulW 10000000000000000000000000000000000000000000000000000000 10000000000000000000000000000000000000000000000000000000 := mulB (k := 200) (m := 200) (by unfold Bd; decide) (by unfold Bd; decide) (by omega) (by omega)
  have m2 : CMulW 7919 (s : Int) := mulB (k := 101) (m := 101) (bdI (by decide)) (bdN (by omega)) (by omega) (by omega)
  have m3 : CMulW 131 (s : Int) := mulB (k := 101) (m := 101) (bdI (by decide)) (bdN (by omega)) (by omega) (by omega)
  have m4 : ∀ x : Int, CMulW 31 (if x < 0 then 1 else 0) := fun x => mulB (k := 101) (m := 101) (bdI (by decide)) (bdI (by split <;> decide)) (by omega) (by omega)
  split
  · next c =>
    have e : (List.map PyData.int ns)[s]? = some (PyData.int ns[s]) := by
      rw [List.getElem?_map, List.getElem?_eq_getElem c]; rfl
    rw [atI_nat e]
    simp
    exact ⟨p1, p2, m1, m2, m4 _, h _ (dice_ok _ _)⟩
  · exact ⟨m3, p1, p2, m1, m2, m4 _, h _ (dice_ok _ _)⟩
end Nk07

namespace Nk07
open PySem PySem.Spec PyProof.Rows L2 DL
def pr (p : Int × Int) : D := .tuple [.int p.1, .int p.2]
theorem sp_is_within {x l m : Int} {P : D → Prop} (h1 : l ≤ x) (h2 : x ≤ m) (h : P (.bool true)) : C_is_within [.int x, .int l, .int m] P := by
  refine u_is_within ?_
  simp [t_is_within]
  refine sp_is_whole ?_
  simp [h1, h2, h]
theorem sp_is_pair {x y : Int} {P : D → Prop} (h : P (.bool true)) : C_is_pair [.tuple [.int x, .int y]] P := by
  refine u_is_pair ?_
  simp [t_is_pair, h]
theorem sp_is_point_in {x y : Int} {P : D → Prop} (x1 : -1000 ≤ x) (x2 : x ≤ 1000) (y1 : -1000 ≤ y) (y2 : y ≤ 1000) (h : P (.bool true)) : C_is_point_in [.tuple [.int x, .int y]] P := by
  refine u_is_point_in ?_
  simp [t_is_point_in]
  refine sp_is_pair ?_
  simp
  refine comp_runT (ds := [.int x, .int y]) (e1 := [.im (.tuple [.int x, .int y]), .un]) (fun Q z => by simpa using z) ?_
  rw [runC_cons]
  simp
  refine sp_is_within x1 x2 ?_
  refine ⟨sz (by decide), ?_⟩
  rw [runC_cons]
  simp
  refine sp_is_within y1 y2 ?_
  refine ⟨sz (by decide), ?_⟩
  rw [runC_nil]
  simp [h]
end Nk07

namespace Nk07
open PySem PySem.Spec PyProof.Rows L2 DL
theorem Best.bd {a b c d p q : Int} {k : Nat} (h : Best a b c d p q) (T : Two a b c d) (ba : Bd k a) (bb : Bd k b) (bc : Bd k c) (bd : Bd k d) : Bd (2 * k + 2) q ∧ Bd (4 * k + 4) p := by
  have hb := T.hb
  have hd := T.hd
  have hq := h.hq
  have lo := h.lo
  have hi := h.hi
  have l := h.low (a + c) (b + d) (by omega) (by
    have := T.lt
    have e : (a + c) * b - a * (b + d) = c * b - a * d := by grind
    omega) (by
    have := T.lt
    have e : c * (b + d) - (a + c) * d = c * b - a * d := by grind
    omega)
  have q1 : Bd (2 * k + 2) q := ((bb.add bd).le (by omega) : Bd (k + k + 1) q).mono (by omega)
  refine ⟨q1, ?_⟩
  by_cases hp : 0 ≤ p
  · have e1 : p * 1 ≤ p * d := Int.mul_le_mul_of_nonneg_left hd hp
    exact ((bc.mul q1).le (by omega) : Bd (k + (2 * k + 2)) p).mono (by omega)
  · have e1 : -p * 1 ≤ -p * b := Int.mul_le_mul_of_nonneg_left hb (by omega)
    have e2 : -p * b = -(p * b) := by grind
    exact ((ba.mul q1).le (by omega) : Bd (k + (2 * k + 2)) p).mono (by omega)
theorem b1 : Bd 200 1 := (show Bd 1 1 by unfold Bd; decide).mono (by omega)
theorem turned_body (C : C0) (k : Nat) (ih : ∀ (a b c d p q : Int) (P : D → Prop), Two a b c d → S k a b c d = some (p, q) → Bd 200 a → Bd 200 b → Bd 200 c → Bd 200 d → P (.tuple [.int p, .int q]) → C [.tuple [.int a, .int b], .tuple [.int c, .int d]] P) (a b c d p q : Int) (P : D → Prop) (h : Two a b c d) (hS : S (k + 1) a b c d = some (p, q)) (ba : Bd 200 a) (bb : Bd 200 b) (bc : Bd 200 c) (bd : Bd 200 d) (hP : P (.tuple [.int p, .int q])) :
    t__law_turned C { nx := fun _ => P .none, rt := fun d _ => P d } [.im (.tuple [.int a, .int b]), .im (.tuple [.int c, .int d]), .un, .un, .un, .un, .un, .un, .un, .un] := by
  have hb := h.hb
  have hd := h.hd
  have hB := h.below
  have hr := Two.rest (a := a) hb
  have hl := div_lo (a := a) hb
  have T := h.turn
  have bw : Bd 201 (a / b) := by
    rcases Int.lt_or_le a 0 with z | z
    · have e := Int.le_ediv_of_mul_le (a := a) (b := a) hb (by have : a * b ≤ a * 1 := Int.mul_le_mul_of_nonpos_left (by omega) (by omega); omega)
      have f : a / b < 0 := Int.ediv_neg_of_neg_of_pos z hb
      exact (ba.le (by omega)).mono (by omega)
    · have f := Int.ediv_nonneg z (Int.le_of_lt hb)
      have g := Int.ediv_le_self b z
      exact (ba.le (by omega)).mono (by omega)
  unfold S at hS
  generalize hw : a / b = w at *
  simp [t__law_turned, hw]
  have bw1 : Bd 403 (w + 1) := (bw.add b1).mono (by omega)
  refine ⟨divB hb bb (by omega), mulB bw1 bd (by omega) (by omega), ?_⟩
  split at hS
  · rename_i n1
    cases hS
    rw [if_pos n1]
    exact hP
  · rename_i n1
    rw [if_neg n1]
    refine ⟨mulB bw bb (by omega) (by omega), mulB bw bd (by omega) (by omega), ?_⟩
    have hle : c - w * d ≤ d := by rw [Int.add_mul] at n1; omega
    have bB : Bd 200 (c - w * d) := bd.le (by omega)
    split at hS
    · rename_i n2
      cases hS
      rw [if_pos n2]
      have q0 : 0 ≤ d / (c - w * d) := Int.ediv_nonneg (Int.le_of_lt hd) (Int.le_of_lt hB)
      have q1 := Int.ediv_le_self (c - w * d) (Int.le_of_lt hd)
      have bq : Bd 200 (d / (c - w * d)) := bd.le (by omega)
      refine ⟨divB hB bB (by omega), mulB bw (bq.add b1) (by omega) (by omega), hP⟩
    · rename_i n2
      rw [if_neg n2]
      have T2 := T n2
      cases z : S k d (c - w * d) b (a - w * b) with
      | none => rw [z] at hS; cases hS
      | some r =>
        rw [z] at hS
        obtain ⟨r1, r2⟩ := r
        cases hS
        have br : Bd 200 (a - w * b) := bb.le (by omega)
        have B := (S_best k _ _ _ _ r1 r2 T2 z).bd T2 bd bB bb br
        refine ih d (c - w * d) b (a - w * b) r1 r2 _ T2 z bd bB bb br ?_
        simp [pr]
        exact ⟨mulB bw B.2 (by omega) (by omega), hP⟩
theorem sp_turned (k : Nat) : ∀ (a b c d p q : Int) (P : D → Prop), Two a b c d → S k a b c d = some (p, q) → Bd 200 a → Bd 200 b → Bd 200 c → Bd 200 d → P (.tuple [.int p, .int q]) → R__law_turned k [.tuple [.int a, .int b], .tuple [.int c, .int d]] P := by
  induction k with
  | zero => intro a b c d p q P h hS _ _ _ _ _; cases hS
  | succ k ih => intro a b c d p q P h hS ba bb bc bd hP; exact u__law_turned (turned_body _ k ih a b c d p q P h hS ba bb bc bd hP)
end Nk07

namespace Nk07
open PySem PySem.Spec PyProof.Rows L2 DL
theorem simplest_body (C : C0) (k : Nat) (ih : ∀ (a b c d p q : Int) (P : D → Prop), Two a b c d → S k a b c d = some (p, q) → Bd 200 a → Bd 200 b → Bd 200 c → Bd 200 d → P (.tuple [.int p, .int q]) → C [.tuple [.int a, .int b], .tuple [.int c, .int d]] P) (hC : C = C__law_turned) (a b c d p q : Int) (P : D → Prop) (h : Two a b c d) (hS : S (k + 1) a b c d = some (p, q)) (ba : Bd 200 a) (bb : Bd 200 b) (bc : Bd 200 c) (bd : Bd 200 d) (hP : P (.tuple [.int p, .int q])) :
    C__law_simplest [.tuple [.int a, .int b], .tuple [.int c, .int d]] P := by
  refine u__law_simplest ?_
  unfold t__law_simplest
  rw [← hC]
  have hb := h.hb
  have hd := h.hd
  have hB := h.below
  have hr := Two.rest (a := a) hb
  have T := h.turn
  have bw : Bd 201 (a / b) := by
    rcases Int.lt_or_le a 0 with z | z
    · have e := Int.le_ediv_of_mul_le (a := a) (b := a) hb (by have : a * b ≤ a * 1 := Int.mul_le_mul_of_nonpos_left (by omega) (by omega); omega)
      have f : a / b < 0 := Int.ediv_neg_of_neg_of_pos z hb
      exact (ba.le (by omega)).mono (by omega)
    · have f := Int.ediv_nonneg z (Int.le_of_lt hb)
      have g := Int.ediv_le_self b z
      exact (ba.le (by omega)).mono (by omega)
  unfold S at hS
  generalize hw : a / b = w at *
  simp [hw]
  have bw1 : Bd 403 (w + 1) := (bw.add b1).mono (by omega)
  refine ⟨divB hb bb (by omega), mulB bw1 bd (by omega) (by omega), ?_⟩
  split at hS
  · rename_i n1
    cases hS
    rw [if_pos n1]
    exact hP
  · rename_i n1
    rw [if_neg n1]
    refine ⟨mulB bw bb (by omega) (by omega), mulB bw bd (by omega) (by omega), ?_⟩
    have hle : c - w * d ≤ d := by rw [Int.add_mul] at n1; omega
    have bB : Bd 200 (c - w * d) := bd.le (by omega)
    split at hS
    · rename_i n2
      cases hS
      rw [if_pos n2]
      have q0 : 0 ≤ d / (c - w * d) := Int.ediv_nonneg (Int.le_of_lt hd) (Int.le_of_lt hB)
      have q1 := Int.ediv_le_self (c - w * d) (Int.le_of_lt hd)
      have bq : Bd 200 (d / (c - w * d)) := bd.le (by omega)
      have dv : CDivW d (c - w * d) := divB hB bB (by omega)
      have mv : CMulW w (d / (c - w * d) + 1) := mulB bw (bq.add b1) (by omega) (by omega)
      first
        | exact ⟨dv, mv, hP⟩
        | exact ⟨dv, mv, dv, hP⟩
        | exact ⟨dv, dv, mv, hP⟩
    · rename_i n2
      rw [if_neg n2]
      have T2 := T n2
      cases z : S k d (c - w * d) b (a - w * b) with
      | none => rw [z] at hS; cases hS
      | some r =>
        rw [z] at hS
        obtain ⟨r1, r2⟩ := r
        cases hS
        have br : Bd 200 (a - w * b) := bb.le (by omega)
        have B := (S_best k _ _ _ _ r1 r2 T2 z).bd T2 bd bB bb br
        refine ih d (c - w * d) b (a - w * b) r1 r2 _ T2 z bd bB bb br ?_
        simp
        exact ⟨mulB bw B.2 (by omega) (by omega), hP⟩
theorem sp_law_simplest (a b c d p q : Int) (P : D → Prop) (h : Two a b c d) (hS : S 226 a b c d = some (p, q)) (ba : Bd 200 a) (bb : Bd 200 b) (bc : Bd 200 c) (bd : Bd 200 d) (hP : P (.tuple [.int p, .int q])) : C__law_simplest [.tuple [.int a, .int b], .tuple [.int c, .int d]] P :=
  simplest_body _ 225 (sp_turned 225) rfl a b c d p q P h hS ba bb bc bd hP
end Nk07

namespace Nk07
open PySem PySem.Spec PyProof.Rows L2 DL
theorem strip_pos : ∀ {k l p l' : Nat}, strip k l p = some l' → l ≠ 0 → l' ≠ 0 ∧ l' ≤ l
  | 0, _, _, _, h, _ => by cases h
  | k + 1, l, p, l', h, hl => by
    unfold strip at h
    split at h
    · rename_i hd
      by_cases e : l / p = 0
      · have : l = 0 := by
          have := Nat.div_add_mod l p
          rw [e] at this
          omega
        omega
      · have := strip_pos h e
        exact ⟨this.1, Nat.le_trans this.2 (Nat.div_le_self _ _)⟩
    · cases h; exact ⟨hl, Nat.le_refl _⟩
def kk (p : Nat) : Key := .inl (p : Int)
theorem putD_new {kvs : List (Key × D)} {k : Key} {d : D} (h : ∀ q ∈ kvs.map (·.1), q ≠ k) : (putD kvs k d).map (·.1) = kvs.map (·.1) ++ [k] := by
  unfold putD
  rw [if_neg]
  · simp
  · intro hh
    rw [List.any_eq_true] at hh
    obtain ⟨x, hx, e⟩ := hh
    exact h x.1 (List.mem_map_of_mem hx) (of_decide_eq_true e)
theorem putD_old {kvs : List (Key × D)} {k : Key} {d : D} (h : k ∈ kvs.map (·.1)) : (putD kvs k d).map (·.1) = kvs.map (·.1) := by
  unfold putD
  rw [if_pos]
  · rw [List.map_map]
    refine List.map_congr_left fun x _ => ?_
    show (if x.1 = k then (x.1, d) else x).1 = x.1
    split <;> rfl
  · rw [List.any_eq_true]
    rw [List.mem_map] at h
    obtain ⟨x, hx, e⟩ := h
    exact ⟨x, hx, decide_eq_true e⟩
theorem keysF_inv {m l p : Nat} {ks : List Nat} (h : keysF (m + 1) l p = some ks) : (l ≤ 1 ∧ ks = []) ∨ (1 < l ∧ ∃ l' ks3, strip 64 l p = some l' ∧ keysF m l' (p + 1) = some ks3 ∧ ks = (if l % p = 0 then [p] else []) ++ ks3) := by
  unfold keysF at h
  split at h
  · cases h; exact .inl ⟨by omega, rfl⟩
  · refine .inr ⟨by omega, ?_⟩
    split at h
    · cases h
    · rename_i l' hs
      cases hr : keysF m l' (p + 1) with
      | none => rw [hr] at h; cases h
      | some ks3 => rw [hr] at h; exact ⟨l', ks3, hs, hr, (Option.some.inj h).symm⟩
theorem strip_inv {m l p l' : Nat} (h : strip (m + 1) l p = some l') : (l % p = 0 ∧ strip m (l / p) p = some l') ∨ (l % p ≠ 0 ∧ l' = l) := by
  unfold strip at h
  split at h
  · exact .inl ⟨by assumption, h⟩
  · exact .inr ⟨by assumption, (Option.some.inj h).symm⟩
def IntV (kvs : List (Key × D)) : Prop := ∀ q ∈ kvs, ∃ i : Int, q.2 = .int i
theorem IntV.get {kvs : List (Key × D)} (h : IntV kvs) (k : Key) : ∃ i : Int, (valD kvs k).getD (.int 0) = .int i := by
  unfold valD
  cases z : kvs.find? fun kv => decide (kv.1 = k) with
  | none => exact ⟨0, rfl⟩
  | some q => exact h q (List.mem_of_find?_eq_some z)
theorem IntV.put {kvs : List (Key × D)} (h : IntV kvs) (k : Key) (i : Int) : IntV (putD kvs k (.int i)) := by
  unfold putD
  split
  · intro q hq
    rw [List.mem_map] at hq
    obtain ⟨x, hx, rfl⟩ := hq
    split
    · exact ⟨i, rfl⟩
    · exact h x hx
  · intro q hq
    rw [List.mem_append] at hq
    rcases hq with hq | hq
    · exact h q hq
    · simp at hq
      subst hq
      exact ⟨i, rfl⟩
structure PcW (n : Nat) (ks : List Nat) (m : Nat) (e : DL.Env) (l p : Nat) (kvs : List (Key × D)) (ks1 ks2 : List Nat) : Prop where
  he : e = [.im (.int n), .mu (.dct kvs), .im (.int l), .im (.int p)]
  h1 : keysF m l p = some ks2
  h2 : kvs.map (·.1) = ks1.map kk
  h3 : ks1 ++ ks2 = ks
  h4 : ∀ x ∈ ks1, x < p
  h5 : ks1.length + m ≤ 1001
  h6 : 2 ≤ p
  h7 : p + m ≤ 1003
  h8 : l ≤ 1000
  h9 : IntV kvs
def PcV (n : Nat) (ks : List Nat) (m : Nat) (e : DL.Env) : Prop := ∃ l p kvs ks1 ks2, PcW n ks m e l p kvs ks1 ks2
structure PcU (n p l l' : Nat) (kvs : List (Key × D)) (ks1 : List Nat) (m : Nat) (e : DL.Env) (l0 : Nat) (kvs' : List (Key × D)) (t : Bool) : Prop where
  he : e = [.im (.int n), .mu (.dct kvs'), .im (.int l0), .im (.int p)]
  h1 : strip m l0 p = some l'
  h2 : kvs'.map (·.1) = (ks1 ++ if t = true then [p] else []).map kk
  h3 : t = false → l0 = l ∧ kvs' = kvs
  h4 : t = true → l % p = 0
  h5 : l0 ≤ 1000
  h6 : IntV kvs'
def PcT (n p l l' : Nat) (kvs : List (Key × D)) (ks1 : List Nat) (m : Nat) (e : DL.Env) : Prop := ∃ l0 kvs' t, PcU n p l l' kvs ks1 m e l0 kvs' t
theorem sp_prime_counts {n : Nat} {ks : List Nat} {P : D → Prop} (hn : n ≤ 1000) (hk : keysF 1001 n 2 = some ks)
    (hP : ∀ kvs : List (Key × D), kvs.map (·.1) = ks.map kk → P (.dict (kvs.map fun p => (kD p.1, p.2)))) : C_prime_counts [.int n] P := by
  refine u_prime_counts ?_
  simp [t_prime_counts]
  refine while_by (PcV n ks) ⟨1001, n, 2, [], [], ks, rfl, hk, rfl, rfl, by simp, by simp, by omega, by omega, hn, fun q hq => nomatch hq⟩ ?_
  rintro m e ⟨l, p, kvs, ks1, ks2, rfl, h1, h2, h3, h4, h5, h6, h7, h8, h9⟩
  simp
  cases m with
  | zero => cases h1
  | succ m =>
    rcases keysF_inv h1 with ⟨hl, rfl⟩ | ⟨hl, l', ks3, hs, hr, rfl⟩
    · rw [if_neg (by omega)]
      refine hP kvs ?_
      rw [h2, ← h3, List.append_nil]
    · rw [if_pos (by omega)]
      have hpB : Bd 101 (p : Int) := bdI (by omega)
      refine while_by (PcT n p l l' kvs ks1) ⟨64, l, kvs, false, rfl, hs, by simpa using h2, fun _ => ⟨rfl, rfl⟩, fun z => (by cases z), h8, h9⟩ ?_
      rintro m' e ⟨l0, kvs', t, rfl, g1, g2, g3, g4, g5, g6⟩
      simp
      refine ⟨by omega, ?_⟩
      obtain ⟨iv, hiv⟩ := g6.get (.inl (p : Int))
      have g7 := g6.put (.inl (p : Int)) (iv + 1)
      have hlen : kvs'.length ≤ ks1.length + 1 := by
        have := congrArg List.length g2
        cases t <;> simp at this <;> omega
      cases m' with
      | zero => cases g1
      | succ m' =>
        rcases strip_inv g1 with ⟨d0, d1⟩ | ⟨d0, rfl⟩
        · rw [if_pos (by omega)]
          rw [hiv]
          have hz : t = true ∨ t = false := by cases t <;> simp
          refine ⟨Nat.lt_of_le_of_lt (show kvs'.length ≤ 1001 by omega) (by decide), divB (by omega) hpB (by omega), m', by omega, ?_⟩
          refine ⟨l0 / p, _, true, by rw [Int.natCast_ediv], d1, ?_, fun z => (by cases z), fun _ => ?_, Nat.le_trans (Nat.div_le_self _ _) g5, g7⟩
          · cases t with
            | true =>
              rw [putD_old]
              · exact g2
              · rw [g2]
                simp [kk]
            | false =>
              rw [putD_new]
              · rw [g2]
                simp [kk]
              · intro q hq
                rw [g2] at hq
                simp at hq
                obtain ⟨x, hx, rfl⟩ := hq
                have := h4 x hx
                intro e
                have := Sum.inl.inj e
                omega
          · rcases hz with z | z
            · exact g4 z
            · rw [← (g3 z).1]; exact d0
        · rw [if_neg (by omega)]
          refine ⟨m, by omega, l', p + 1, kvs', _, ks3, by simp, hr, g2, ?_, ?_, ?_, by omega, by omega, g5, g6⟩
          · cases t with
            | true => rw [← h3, if_pos (g4 rfl)]; simp
            | false => rw [← h3, if_neg (c := l % p = 0) (by rw [← (g3 rfl).1]; exact d0)]; simp
          · intro x hx
            rw [List.mem_append] at hx
            rcases hx with hx | hx
            · have := h4 x hx; omega
            · cases t with
              | true => simp at hx; omega
              | false => simp at hx
          · cases t <;> simp <;> omega
theorem keysF_bd : ∀ {m l p : Nat} {ks : List Nat}, keysF m l p = some ks → ∀ x ∈ ks, p ≤ x ∧ x < p + m
  | 0, _, _, _, h => by cases h
  | m + 1, l, p, ks, h => by
    rcases keysF_inv h with ⟨hl, rfl⟩ | ⟨hl, l', ks3, hs, hr, rfl⟩
    · simp
    · intro x hx
      rw [List.mem_append] at hx
      rcases hx with hx | hx
      · split at hx
        · simp at hx; omega
        · simp at hx
      · have := keysF_bd hr x hx; omega
theorem ste_le {f p : Nat} (hp : 0 < p) : ste f p ≤ f := by
  unfold ste
  have h1 : f / p * (p - 1) ≤ f / p * p := Nat.mul_le_mul_left _ (by omega)
  have h2 := Nat.div_mul_le_self f p
  omega
theorem ste_int {f p : Nat} (hp : 0 < p) : (f : Int) / (p : Int) * ((p : Int) - 1) = ((ste f p : Nat) : Int) := by
  unfold ste
  rw [Int.natCast_mul, Int.natCast_ediv, Int.natCast_sub (by omega)]
  rfl
theorem stes_le {n : Nat} : ∀ {ks : List Nat} {f : Nat}, (∀ x ∈ ks, 0 < x) → f ≤ n → ks.foldl ste f ≤ n
  | [], _, _, h => h
  | k :: ks, f, hk, h => stes_le (ks := ks) (fun x hx => hk x (List.mem_cons_of_mem _ hx)) (Nat.le_trans (ste_le (hk k (List.mem_cons_self ..))) h)
theorem sp_phi_in {n f : Nat} {P : D → Prop} (hn : n ≤ 1000) (hf : phiM n = some f) (hP : P (.int f)) : C_phi_in [.int n] P := by
  refine u_phi_in ?_
  simp [t_phi_in]
  unfold phiM at hf
  cases hk : keysF 1001 n 2 with
  | none => rw [hk] at hf; cases hf
  | some ks =>
    rw [hk] at hf
    have hf : ks.foldl ste n = f := Option.some.inj hf
    have hb := keysF_bd hk
    refine for_keys (L := ks.map fun (x : Nat) => (.int (x : Int) : D)) (e1 := [.im (.int n), .im (.int n), .un]) (fun Q h => ?_) ?_ (fun i e => ∃ z, e = [.im (.int n), .im (.int (((ks.take i).foldl ste n : Nat) : Int)), z]) ⟨_, rfl⟩ ?_ ?_
    · simp
      refine sp_prime_counts hn hk fun kvs hkv => h _ ?_
      have : (kvs.map fun p => (kD p.1, p.2)).map (·.1) = (kvs.map (·.1)).map kD := by simp
      rw [this, hkv, List.map_map]
      rfl
    · intro d hd
      rw [List.mem_map] at hd
      obtain ⟨x, _, rfl⟩ := hd
      rfl
    · rintro i d e2 hd ⟨z, rfl⟩
      obtain ⟨x, hx, rfl⟩ := map_get hd
      have hbx := hb x (mem_get hx)
      have hle : (ks.take i).foldl ste n ≤ n := stes_le (fun x hx => Nat.lt_of_lt_of_le (by decide) (hb x (List.mem_of_mem_take hx)).1) (Nat.le_refl _)
      rw [take_S hx, List.foldl_append]
      generalize (ks.take i).foldl ste n = g at *
      simp
      refine ⟨divB (by omega) (bdI (by omega) : Bd 101 _) (by omega), mulB (k := 101) (m := 101) ?_ (bdI (by omega)) (by omega) (by omega), ?_⟩
      · rw [← Int.natCast_ediv]
        exact bdN (Nat.le_trans (Nat.div_le_self _ _) (by omega))
      · exact ste_int (by omega)
    · rintro e2 ⟨z, rfl⟩
      rw [List.length_map, List.take_length, hf]
      simpa using hP
def ph (n : Nat) : Nat := (phiM n).getD 0
def sumP : Nat → Nat
  | 0 => 0
  | n + 1 => sumP n + ph (n + 1)
theorem sumM_inv : ∀ {n s : Nat}, sumM n = some s → sumP n = s ∧ ∀ m, 1 ≤ m → m ≤ n → phiM m = some (ph m)
  | 0, s, h => by
    cases h
    exact ⟨rfl, fun m h1 h2 => by omega⟩
  | n + 1, s, h => by
    unfold sumM at h
    split at h
    · cases h
    · rename_i a ha
      split at h
      · cases h
      · rename_i b hb
        cases h
        obtain ⟨i1, i2⟩ := sumM_inv ha
        have e : ph (n + 1) = b := by unfold ph; rw [hb]; rfl
        refine ⟨by unfold sumP; rw [i1, e], fun m h1 h2 => ?_⟩
        by_cases z : m = n + 1
        · subst z; rw [e]; exact hb
        · exact i2 m h1 (by omega)
theorem phi_ok {n : Nat} (h1 : 1 ≤ n) (h2 : n ≤ 1000) : phiM n = some (ph n) := (sumM_inv sum1000).2 n h1 h2
theorem sumP1000 : sumP 1000 = 304192 := (sumM_inv sum1000).1
theorem both_inv : ∀ {n : Nat}, both n = true → ∀ m, 1 ≤ m → m ≤ n → phiM m = lphM m
  | 0, _, m, h1, h2 => by omega
  | n + 1, h, m, h1, h2 => by
    unfold both at h
    rw [Bool.and_eq_true] at h
    by_cases z : m = n + 1
    · subst z; exact of_decide_eq_true (by simpa using h.1)
    · exact both_inv h.2 m h1 (by omega)
theorem lph_ok {n : Nat} (h1 : 1 ≤ n) (h2 : n ≤ 90) : lphM n = some (ph n) := by rw [← both_inv both90 n h1 h2]; exact phi_ok h1 (by omega)
def phs (n : Nat) : List Int := (List.range n).map fun k => ((ph (k + 1) : Nat) : Int)
theorem phs_S (n : Nat) : phs (n + 1) = phs n ++ [((ph (n + 1) : Nat) : Int)] := by
  unfold phs
  rw [List.range_succ, List.map_append]
  rfl
theorem phs_len (n : Nat) : (phs n).length = n := by simp [phs]
theorem phs_sum : ∀ n, (phs n).sum = ((sumP n : Nat) : Int)
  | 0 => rfl
  | n + 1 => by
    rw [phs_S, List.sum_append, phs_sum n]
    show _ = ((sumP n + ph (n + 1) : Nat) : Int)
    simp
theorem sp_farey_size_in {n : Nat} {P : D → Prop} (hn : n ≤ 1000) (hP : P (.int ((1 + sumP n : Nat) : Int))) : C_farey_size_in [.int n] P := by
  refine u_farey_size_in ?_
  simp [t_farey_size_in]
  refine comp_rng2 (i0 := 1) (j := (n : Int) + 1) (e1 := [.im (.int n), .un]) (fun S h => by simpa using h) (by omega) (fun i acc e => acc = (phs i).map PyData.int ∧ e = [.im (.int n), .un]) (by simp [phs]) ?_ ?_
  · rintro i acc e2 hi ⟨rfl, rfl⟩
    simp
    rw [show (1 : Int) + (i : Int) = ((i + 1 : Nat) : Int) by omega]
    refine sp_phi_in (by omega) (phi_ok (by omega) (by omega)) ?_
    refine ⟨?_, ?_⟩
    · rw [phs_len]; exact small1000 (by omega)
    · rw [phs_S]; simp
  · rintro acc e2 ⟨rfl, rfl⟩
    simp
    rw [intsOf_of]
    simp
    rw [phs_sum]
    simpa using hP
theorem sp_require_count {n : Nat} {P : D → Prop} (h1 : 1 ≤ n) (hn : n ≤ 1000) (hP : P .none) : C_require_count [.int n] P := by
  refine u_require_count ?_
  simp [t_require_count]
  exact sp_require_number (by unfold FAR; omega) (by unfold FAR; omega) (by omega) (by omega) hP
theorem sp_farey_size {n : Nat} {P : D → Prop} (h1 : 1 ≤ n) (hn : n ≤ 1000) (hP : P (.int ((1 + sumP n : Nat) : Int))) : C_farey_size [.int n] P := by
  refine u_farey_size ?_
  simp [t_farey_size]
  exact sp_require_count h1 hn (sp_farey_size_in hn hP)
theorem sp_phi {n : Nat} {P : D → Prop} (h1 : 1 ≤ n) (hn : n ≤ 1000) (hP : P (.int (ph n))) : C_phi [.int n] P := by
  refine u_phi ?_
  simp [t_phi]
  exact sp_require_count h1 hn (sp_phi_in hn (phi_ok h1 hn) hP)
end Nk07

namespace Nk07
open PySem PySem.Spec PyProof.Rows L2 DL
theorem rows_inv : ∀ {n : Nat}, (rows n).isSome = true → rows n = some (sumP n) ∧ ∀ m, 1 ≤ m → m ≤ n → cnt m 2600 0 1 1 m 2 = 1 + sumP m
  | 0, _ => ⟨rfl, fun m h1 h2 => by omega⟩
  | n + 1, h => by
    unfold rows at h ⊢
    cases hr : rows n with
    | none => rw [hr] at h; cases h
    | some s =>
      obtain ⟨i1, i2⟩ := rows_inv (n := n) (by rw [hr]; rfl)
      rw [hr] at i1
      cases i1
      rw [hr] at h
      cases hp : phiM (n + 1) with
      | none => rw [hp] at h; cases h
      | some f =>
        rw [hp] at h
        have e : f = ph (n + 1) := by unfold ph; rw [hp]; rfl
        subst e
        simp only at h ⊢
        split at h
        · rename_i hc
          have hc := Nat.eq_of_beq_eq_true hc
          rw [if_pos (by rw [hc]; exact Nat.beq_refl _)]
          refine ⟨rfl, fun m h1 h2 => ?_⟩
          by_cases z : m = n + 1
          · subst z; rw [hc]; rfl
          · exact i2 m h1 (by omega)
        · cases h
theorem cnt_ok {n : Nat} (h1 : 1 ≤ n) (h2 : n ≤ 90) : cnt n 2600 0 1 1 n 2 = 1 + sumP n := (rows_inv rows90).2 n h1 h2
theorem sumP90 : sumP 90 ≤ 2508 := by
  have h := (rows_inv rows90).1
  have h2 : (match rows 90 with | some s => decide (s ≤ 2508) | none => false) = true := by decide +kernel
  rw [h] at h2
  exact of_decide_eq_true h2
/-- neighbours -/
structure Nb (n a b c d : Nat) : Prop where
  det : b * c = a * d + 1
  far : n < b + d
  hb : b ≤ n
  hd : d ≤ n
  b1 : 1 ≤ b
  d1 : 1 ≤ d
  ab : a ≤ b
  cd : c ≤ d
theorem Nb.next {n a b c d : Nat} (h : Nb n a b c d) (hn : c ≠ d) : a ≤ (n + b) / d * c ∧ b ≤ (n + b) / d * d ∧ Nb n c d ((n + b) / d * c - a) ((n + b) / d * d - b) := by
  obtain ⟨det, far, hb, hd, b1, d1, ab, cd⟩ := h
  have m1 := Nat.div_add_mod (n + b) d
  have m2 := Nat.mod_lt (n + b) (show 0 < d by omega)
  have e1 : d * ((n + b) / d) = (n + b) / d * d := Nat.mul_comm _ _
  generalize (n + b) / d = t at *
  have hbt : b ≤ t * d := by omega
  have k1 : d * (t * c) + 1 = (t * d) * c + 1 := by rw [← Nat.mul_assoc, Nat.mul_comm d t]
  have k2 : b * c ≤ (t * d) * c := Nat.mul_le_mul_right _ hbt
  have hat : a ≤ t * c := by
    have : a * d < (t * c) * d + 1 := by
      have : t * c * d = t * d * c := by rw [Nat.mul_assoc, Nat.mul_comm c d, ← Nat.mul_assoc]
      omega
    exact Nat.le_of_mul_le_mul_right (show a * d ≤ t * c * d by omega) (by omega)
  refine ⟨hat, hbt, ?_⟩
  have det2 : d * (t * c - a) = c * (t * d - b) + 1 := by
    rw [Nat.mul_sub, Nat.mul_sub]
    have e2 : d * (t * c) = c * (t * d) := by rw [Nat.mul_left_comm, Nat.mul_left_comm c t, Nat.mul_comm d c]
    have e3 : d * a = a * d := Nat.mul_comm _ _
    have e4 : c * b = b * c := Nat.mul_comm _ _
    have e5 : c * b ≤ c * (t * d) := Nat.mul_le_mul_left _ hbt
    omega
  generalize t * c - a = e at *
  have hf : t * d - b ≤ n ∧ n < d + (t * d - b) ∧ 1 ≤ t * d - b := by omega
  generalize t * d - b = f at *
  refine ⟨det2, hf.2.1, hd, hf.1, d1, hf.2.2, cd, ?_⟩
  have hc : c + 1 ≤ d := by omega
  have q1 : c * f + f ≤ d * f := by
    have := Nat.mul_le_mul_right f hc
    rw [Nat.add_mul, Nat.one_mul] at this
    exact this
  exact Nat.le_of_mul_le_mul_left (show d * e ≤ d * f by omega) (show 0 < d by omega)
def pd (p : Nat × Nat) : D := .tuple [.int p.1, .int p.2]
structure Row (n : Nat) (L : List (Nat × Nat)) : Prop where
  z : L[0]? = some (0, 1)
  nb : ∀ i p q, L[i]? = some p → L[i + 1]? = some q → Nb n p.1 p.2 q.1 q.2
structure RwW (n : Nat) (m : Nat) (e : DL.Env) (a b c d : Nat) (pre : List (Nat × Nat)) (z1 z2 z3 z4 z5 : Sl) : Prop where
  he : e = [.im (.int n), .mu (.lst ((pre ++ [(a, b), (c, d)]).map pd)), z1, z2, z3, z4, z5]
  hc : cnt n m a b c d (pre.length + 2) = 1 + sumP n
  nb : Nb n a b c d
  ro : Row n (pre ++ [(a, b), (c, d)])
  hl : pre.length + m ≤ 2600
def RwV (n m : Nat) (e : DL.Env) : Prop := ∃ a b c d pre z1 z2 z3 z4 z5, RwW n m e a b c d pre z1 z2 z3 z4 z5
theorem sumP_le : ∀ {n m : Nat}, n ≤ m → sumP n ≤ sumP m
  | n, m, h => by
    induction m with
    | zero => have : n = 0 := by omega
              subst this; exact Nat.le_refl _
    | succ m ih =>
      by_cases z : n = m + 1
      · subst z; exact Nat.le_refl _
      · have := ih (by omega)
        have e : sumP (m + 1) = sumP m + ph (m + 1) := rfl
        omega
theorem snoc_row {n : Nat} {L : List (Nat × Nat)} {p q : Nat × Nat} (h : Row n (L ++ [p])) (hn : Nb n p.1 p.2 q.1 q.2) : Row n (L ++ [p, q]) := by
  have e : L ++ [p, q] = (L ++ [p]) ++ [q] := by simp
  have hl : (L ++ [p]).length = L.length + 1 := by simp
  rw [e]
  refine ⟨by rw [List.getElem?_append_left (by omega)]; exact h.z, fun i u v h1 h2 => ?_⟩
  by_cases c : i + 1 < L.length + 1
  · rw [List.getElem?_append_left (by omega)] at h1 h2
    exact h.nb i u v h1 h2
  · have h3 := (List.getElem?_eq_some_iff.mp h2).1
    simp at h3
    have : i = L.length := by omega
    subst this
    rw [List.getElem?_append_left (by omega)] at h1
    simp at h1 h2
    subst h1 h2
    exact hn
theorem sp_farey_row_in {n : Nat} {P : D → Prop} (h1 : 1 ≤ n) (hn : n ≤ 90)
    (hP : ∀ L : List (Nat × Nat), Row n L → L.length = 1 + sumP n → (∃ pre, L = pre ++ [(1, 1)]) → P (.list (L.map pd))) : C_farey_row_in [.int n] P := by
  refine u_farey_row_in ?_
  simp [t_farey_row_in]
  refine while_by (RwV n) ⟨2600, 0, 1, 1, n, [], _, _, _, _, _, rfl, cnt_ok h1 hn, ⟨by omega, by omega, by omega, by omega, by omega, by omega, by omega, by omega⟩, ⟨rfl, fun i p q g1 g2 => ?_⟩, by simp⟩ ?_
  · match i, g1, g2 with
    | 0, g1, g2 =>
      cases g1; cases g2
      exact ⟨by omega, by omega, by omega, by omega, by omega, by omega, by omega, by omega⟩
    | i + 1, g1, g2 => simp at g2
  rintro m e ⟨a, b, c, d, pre, z1, z2, z3, z4, z5, rfl, hc, nb, ro, hl⟩
  have eL : List.map pd (pre ++ [(a, b), (c, d)]) = pre.map pd ++ [pd (a, b), pd (c, d)] := by simp
  rw [eL]
  simp
  rw [at_last2, cut_last2]
  simp [pd]
  have hcd : c = d → c = 1 := by
    intro z
    subst z
    have := nb.det
    have e1 : (b - a) * c = 1 := by rw [Nat.sub_mul]; omega
    exact Nat.eq_one_of_mul_eq_one_left e1
  have nc := nb.cd
  have nd := nb.hd
  have nbb := nb.hb
  have d1 := nb.d1
  cases m with
  | zero =>
    rw [cnt_0] at hc
    have := sumP_le (show n ≤ 1000 by omega)
    rw [sumP1000] at this
    omega
  | succ m =>
    rw [cnt_S] at hc
    by_cases z : c = d
    · rw [if_pos z] at hc
      have c1 := hcd z
      subst z c1
      simp
      have h := hP _ ro (by simp; omega) ⟨pre ++ [(a, b)], by simp⟩
      rw [eL] at h
      exact h
    · rw [if_neg z] at hc
      have hne : ¬ ((c : Int) = 1) ∨ ¬ ((d : Int) = 1) := by omega
      rw [if_pos hne]
      obtain ⟨n1, n2, n3⟩ := nb.next z
      have tl : (n + b) / d ≤ 180 := Nat.le_trans (Nat.div_le_self _ _) (by omega)
      have et : ((n : Int) + (b : Int)) / (d : Int) = (((n + b) / d : Nat) : Int) := by rw [Int.natCast_ediv, Int.natCast_add]
      rw [et]
      have ro2 := snoc_row (L := pre ++ [(a, b)]) (p := (c, d)) (q := ((n + b) / d * c - a, (n + b) / d * d - b)) (by simpa using ro) n3
      generalize (n + b) / d = t at *
      refine ⟨divB (by omega) (bdN (by omega) : Bd 101 _) (by omega), mulB (bdN (by omega)) (bdN (by omega)) (by omega) (by omega), mulB (bdN (by omega)) (bdN (by omega)) (by omega) (by omega), Nat.lt_of_le_of_lt (show pre.length + 1 + 1 ≤ 3000 by omega) (by decide), m, by omega, ?_⟩
      refine ⟨c, d, t * c - a, t * d - b, pre ++ [(a, b)], .im (.int a), .im (.int b), .im (.int c), .im (.int d), .im (.int t), ?_, ?_, n3, ?_, by simp; omega⟩
      · simp [pd]
        rw [Int.natCast_sub n1, Int.natCast_sub n2, Int.natCast_mul, Int.natCast_mul]
        exact ⟨rfl, rfl⟩
      · simpa using hc
      · simpa using ro2
theorem sp_farey_row {n : Nat} {P : D → Prop} (h1 : 1 ≤ n) (hn : n ≤ 90)
    (hP : ∀ L : List (Nat × Nat), Row n L → L.length = 1 + sumP n → (∃ pre, L = pre ++ [(1, 1)]) → P (.tuple (L.map pd))) : C_farey_row [.int n] P := by
  refine u_farey_row ?_
  simp [t_farey_row]
  refine sp_require_count h1 (by omega) (sp_farey_size_in (by omega) ?_)
  have hb : sumP n ≤ 2508 := by
    have := sumP_le hn
    have := sumP90
    omega
  simp
  refine ⟨by omega, sp_farey_row_in h1 hn fun L g1 g2 g3 => ?_⟩
  simp
  exact hP L g1 g2 g3
theorem lphF_inv {k f l a r : Nat} (h : lphF (k + 1) f l a = some r) : (a * a ≤ l ∧ ∃ l', strip 64 l a = some l' ∧ lphF k (if l % a = 0 then ste f a else f) l' (a + 1) = some r) ∨ (¬ a * a ≤ l ∧ r = if 1 < l then ste f l else f) := by
  unfold lphF at h
  split at h
  · refine .inl ⟨by assumption, ?_⟩
    split at h
    · cases h
    · exact ⟨_, by assumption, h⟩
  · exact .inr ⟨by assumption, (Option.some.inj h).symm⟩
structure LpW (n r m : Nat) (e : DL.Env) (f l a : Nat) : Prop where
  he : e = [.im (.int n), .im (.int f), .im (.int l), .im (.int a)]
  hr : lphF m f l a = some r
  hf : f ≤ 1000
  hl : l ≤ 1000
  ha : 2 ≤ a
  hm : a + m ≤ 1000
  l0 : 1 ≤ l
def LpV (n r m : Nat) (e : DL.Env) : Prop := ∃ f l a, LpW n r m e f l a
structure LqW (n f a l' m : Nat) (e : DL.Env) (l : Nat) : Prop where
  he : e = [.im (.int n), .im (.int f), .im (.int l), .im (.int a)]
  hr : strip m l a = some l'
  hl : l ≤ 1000
def LqV (n f a l' m : Nat) (e : DL.Env) : Prop := ∃ l, LqW n f a l' m e l
theorem sp_law_phi {n r : Nat} {P : D → Prop} (h0 : 1 ≤ n) (hn : n ≤ 900) (hr : lphM n = some r) (hP : P (.int r)) : C__law_phi [.int n] P := by
  refine u__law_phi ?_
  simp [t__law_phi]
  refine while_by (LpV n r) ⟨40, n, n, 2, rfl, hr, by omega, by omega, by omega, by omega, h0⟩ ?_
  rintro m e ⟨f, l, a, rfl, h1, h2, h3, h4, h5, h6⟩
  simp
  refine ⟨mulB (bdN (by omega)) (bdN (by omega)) (by omega) (by omega), ?_⟩
  have eaa : (a : Int) * a = ((a * a : Nat) : Int) := (Int.natCast_mul a a).symm
  rw [eaa]
  cases m with
  | zero => cases h1
  | succ m =>
    rcases lphF_inv h1 with ⟨c1, l', c2, c3⟩ | ⟨c1, c2⟩
    · rw [if_pos (by omega)]
      refine ⟨by omega, ?_⟩
      have hs := strip_pos c2 (by omega)
      have aB : Bd 101 (a : Int) := bdN (by omega)
      by_cases c : l % a = 0
      · rw [if_pos (by omega)]
        rw [if_pos c] at c3
        refine ⟨divB (by omega) aB (by omega), mulB (k := 101) (m := 101) (by rw [← Int.natCast_ediv]; exact bdN (Nat.le_trans (Nat.div_le_self _ _) (by omega))) (bdI (by omega)) (by omega) (by omega), ?_⟩
        rw [ste_int (by omega)]
        have sl := ste_le (f := f) (show 0 < a by omega)
        generalize ste f a = g at *
        refine while_by (LqV n g a l') ⟨64, l, rfl, c2, h3⟩ ?_
        rintro m' e ⟨l0, rfl, g1, g2⟩
        simp
        refine ⟨by omega, ?_⟩
        cases m' with
        | zero => cases g1
        | succ m' =>
          rcases strip_inv g1 with ⟨d0, d1⟩ | ⟨d0, rfl⟩
          · rw [if_pos (by omega)]
            exact ⟨divB (by omega) aB (by omega), m', by omega, l0 / a, by rw [Int.natCast_ediv], d1, Nat.le_trans (Nat.div_le_self _ _) g2⟩
          · rw [if_neg (by omega)]
            exact ⟨m, by omega, g, l', a + 1, by simp, c3, by omega, g2, by omega, by omega, by omega⟩
      · rw [if_neg (by omega)]
        rw [if_neg c] at c3
        refine ⟨m, by omega, f, l, a + 1, by simp, ?_, h2, h3, by omega, by omega, h6⟩
        have : l' = l := by
          unfold strip at c2
          rw [if_neg c] at c2
          exact (Option.some.inj c2).symm
        rw [← this]; exact c3
    · rw [if_neg (by omega)]
      by_cases c : 1 < l
      · rw [if_pos c] at c2
        rw [if_pos (by omega)]
        refine ⟨divB (by omega) (bdN (by omega) : Bd 101 _) (by omega), mulB (k := 101) (m := 101) (by rw [← Int.natCast_ediv]; exact bdN (Nat.le_trans (Nat.div_le_self _ _) (by omega))) (bdI (by omega)) (by omega) (by omega), ?_⟩
        rw [ste_int (by omega), ← c2]
        exact hP
      · rw [if_neg c] at c2
        rw [if_neg (by omega), ← c2]
        exact hP
end Nk07

namespace Nk07
open PySem PySem.Spec PyProof.Rows L2 DL
/-- two rows that begin alike are alike -/
theorem Nb.uniq {n a b c d c' d' : Nat} (h : Nb n a b c d) (h' : Nb n a b c' d') : c = c' ∧ d = d' := by
  have e1 := h.det
  have e2 := h'.det
  have co : Nat.Coprime b a := by
    have g1 := Nat.gcd_dvd_left b a
    have g2 := Nat.gcd_dvd_right b a
    have : Nat.gcd b a ∣ 1 := by
      have q1 : Nat.gcd b a ∣ b * c := Nat.dvd_trans g1 (Nat.dvd_mul_right _ _)
      have q2 : Nat.gcd b a ∣ a * d := Nat.dvd_trans g2 (Nat.dvd_mul_right _ _)
      rw [e1] at q1
      exact (Nat.dvd_add_right q2).mp q1
    exact Nat.dvd_one.mp this
  have b1 := h.b1
  have key : ∀ c d c' d' : Nat, b * c = a * d + 1 → b * c' = a * d' + 1 → d ≤ d' → n < b + d → d' ≤ n → d = d' := by
    intro c d c' d' e1 e2 hd f1 f2
    have hc : c ≤ c' := by
      have : a * d ≤ a * d' := Nat.mul_le_mul_left _ hd
      exact Nat.le_of_mul_le_mul_left (show b * c ≤ b * c' by omega) b1
    have e : b * (c' - c) = a * (d' - d) := by
      rw [Nat.mul_sub, Nat.mul_sub]; omega
    have dv : b ∣ d' - d := co.dvd_of_dvd_mul_left (⟨_, e.symm⟩)
    rcases Nat.eq_zero_or_pos (d' - d) with z | z
    · omega
    · have := Nat.le_of_dvd z dv
      omega
  have ed : d = d' := by
    rcases Nat.le_total d d' with z | z
    · exact key c d c' d' e1 e2 z h.far h'.hd
    · exact (key c' d' c d e2 e1 z h'.far h.hd).symm
  subst ed
  exact ⟨Nat.eq_of_mul_eq_mul_left b1 (by omega), rfl⟩
def mir (p : Nat × Nat) : Nat × Nat := (p.2 - p.1, p.2)
theorem Nb.mir {n a b c d : Nat} (h : Nb n a b c d) : Nb n (d - c) d (b - a) b := by
  obtain ⟨det, far, hb, hd, b1, d1, ab, cd⟩ := h
  refine ⟨?_, by omega, hd, hb, d1, b1, by omega, by omega⟩
  rw [Nat.mul_sub, Nat.sub_mul]
  have e1 : d * b = b * d := Nat.mul_comm _ _
  have e2 : d * a = a * d := Nat.mul_comm _ _
  have e3 : c * b = b * c := Nat.mul_comm _ _
  have e4 : c * b ≤ d * b := Nat.mul_le_mul_right _ cd
  omega
theorem Row.mirrored {n : Nat} {L : List (Nat × Nat)} (h : Row n L) (hl : ∃ pre, L = pre ++ [(1, 1)]) : L.reverse.map Nk07.mir = L := by
  have len : (L.reverse.map Nk07.mir).length = L.length := by simp
  refine List.ext_getElem len fun i h1 h2 => ?_
  induction i with
  | zero =>
    have hz := h.z
    rw [List.getElem?_eq_getElem h2] at hz
    rw [Option.some.inj hz]
    obtain ⟨pre, rfl⟩ := hl
    simp [Nk07.mir]
  | succ i ih =>
    have ih := ih (by omega) (by omega)
    have n1 := h.nb i _ _ (List.getElem?_eq_getElem (show i < L.length by omega)) (List.getElem?_eq_getElem h2)
    have l0 : L.length - 1 - (i + 1) < L.length := by omega
    have l1 : L.length - 1 - i < L.length := by omega
    have e1 : (L.reverse.map Nk07.mir)[i]'(by omega) = Nk07.mir L[L.length - 1 - i] := by simp
    have e2 : (L.reverse.map Nk07.mir)[i + 1]'h1 = Nk07.mir L[L.length - 1 - (i + 1)] := by simp
    have n2 := (h.nb (L.length - 1 - (i + 1)) L[L.length - 1 - (i + 1)] L[L.length - 1 - i] (List.getElem?_eq_getElem l0) (by rw [show L.length - 1 - (i + 1) + 1 = L.length - 1 - i by omega]; exact List.getElem?_eq_getElem l1)).mir
    rw [e1] at ih
    rw [← ih] at n1
    obtain ⟨u1, u2⟩ := n2.uniq n1
    rw [e2]
    exact Prod.ext u1 u2
def LrV (n : Nat) (L : List (Nat × Nat)) (i : Nat) (e : DL.Env) : Prop := ∃ a b z1 z2 z3 z4 z5, L[i]? = some (a, b) ∧ e = [.im (.int n), .im (.tuple (L.map pd)), .im (.int (1 + (sumP n : Nat))), .un, .im (.int (a : Nat)), .im (.int (b : Nat)), z1, z2, z3, z4, z5]
theorem sp_law_row_right {n : Nat} {P : D → Prop} (h1 : 1 ≤ n) (hn : n ≤ 90) (hP : P (.bool true)) : C__law_row_right [.int n] P := by
  refine u__law_row_right ?_
  simp [t__law_row_right]
  refine sp_farey_row h1 hn fun L hL hlen hlast => ?_
  refine comp_rng2 (i0 := 1) (j := (n : Int) + 1) (e1 := [.im (.int n), .un, .un, .un, .un, .un, .un, .un, .un, .un, .un]) (fun S h => by simpa using h) (by omega) (fun i acc e => acc = (phs i).map PyData.int ∧ e = [.im (.int n), .un, .un, .un, .un, .un, .un, .un, .un, .un, .un]) (by simp [phs]) ?_ ?_
  · rintro i acc e2 hi ⟨rfl, rfl⟩
    simp
    rw [show (1 : Int) + (i : Int) = ((i + 1 : Nat) : Int) by omega]
    refine sp_law_phi (by omega) (by omega) (lph_ok (by omega) (by omega)) ?_
    refine ⟨?_, ?_⟩
    · rw [phs_len]; exact small1000 (by omega)
    · rw [phs_S]; simp
  rintro acc e2 ⟨rfl, rfl⟩
  simp
  rw [intsOf_of]
  simp
  rw [phs_sum, hlen]
  simp
  refine sp_farey_size h1 (by omega) ?_
  simp
  obtain ⟨pre, eL⟩ := hlast
  have hz := hL.z
  have ez : atI (L.map pd) 0 = some (pd (0, 1)) := atI_nat (j := 0) (by rw [List.getElem?_map, hz]; rfl)
  have el : atI (L.map pd) (-1) = some (pd (1, 1)) := by rw [eL, List.map_append]; exact at_last
  rw [ez, el]
  simp [pd]
  obtain ⟨R, eR⟩ : ∃ R, L = (0, 1) :: R := by
    cases L with
    | nil => cases hz
    | cons x R => exact ⟨R, by rw [Option.some.inj hz]⟩
  have hR : ∀ i, R[i]? = L[i + 1]? := fun i => by rw [eR]; rfl
  have eM : L.map pd = pd (0, 1) :: R.map pd := by rw [eR]; rfl
  have hb : sumP n ≤ 2508 := by
    have := sumP_le hn
    have := sumP90
    omega
  refine for_zipT (xs := L.map pd) (ys := R.map pd) (e1 := [.im (.int n), .im (.tuple (L.map pd)), .im (.int (1 + (sumP n : Nat))), .un, .im (.int 0), .im (.int 1), .un, .un, .un, .un, .un]) (fun S h => ?_)
    (LrV n L) ⟨0, 1, _, _, _, _, _, hz, rfl⟩ ?_ ?_
  · simp
    have hne := @cut_tail_ne (pd (0, 1)) (R.map pd)
    have hcu := @cut_tail (pd (0, 1)) (R.map pd)
    rw [← eM] at hne hcu
    simp at hne
    refine ⟨hne, ?_⟩
    rw [hcu]
    exact h
  · rintro i x y e2 hx hy ⟨a, b, z1, z2, z3, z4, z5, hi, rfl⟩
    obtain ⟨p, hp, rfl⟩ := map_get hx
    obtain ⟨⟨c, d⟩, hq, rfl⟩ := map_get hy
    rw [hi] at hp
    cases hp
    rw [hR] at hq
    have nb : Nb n a b c d := hL.nb i _ _ hi hq
    have nc := nb.cd
    have nd := nb.hd
    have nbb := nb.hb
    have na := nb.ab
    have b1 := nb.b1
    have d1 := nb.d1
    have far := nb.far
    have det := nb.det
    rw [show pd (a, b) = .tuple [.int (a : Nat), .int (b : Nat)] from rfl, show pd (c, d) = .tuple [.int (c : Nat), .int (d : Nat)] from rfl]
    simp
    have e0 : (b : Int) * c - a * d = 1 := by
      rw [← Int.natCast_mul, ← Int.natCast_mul]; omega
    refine ⟨mulB (bdN (by omega)) (bdN (by omega)) (by omega) (by omega), mulB (bdN (by omega)) (bdN (by omega)) (by omega) (by omega), ?_⟩
    rw [if_pos e0, if_neg (by omega), if_neg (by split <;> omega)]
    have mx : ∀ x y : Nat, x ≤ 90 → y ≤ 90 → x * y ≤ 8100 := fun x y hx hy => Nat.mul_le_mul hx hy
    refine ⟨mulB (bdN (by omega)) (bdN (by omega)) (by omega) (by omega), mulB (by rw [← Int.natCast_mul]; exact bdN (Nat.le_trans (mx _ _ (by omega) (by omega)) (by decide))) (bdN (by omega)) (by omega) (by omega), mulB (bdN (by omega)) (bdN (by omega)) (by omega) (by omega), mulB (by rw [← Int.natCast_mul]; exact bdN (Nat.le_trans (mx _ _ (by omega) (by omega)) (by decide))) (bdN (by omega)) (by omega) (by omega), ?_⟩
    refine sp_law_common ?_
    have t1 : (a : Int) * b * d + b = (b : Int) * b * c := by grind
    have co : Int.gcd (c : Int) (d : Int) = 1 := by
      rw [Int.gcd_natCast_natCast]
      have g1 := Nat.gcd_dvd_left c d
      have g2 := Nat.gcd_dvd_right c d
      have q1 : Nat.gcd c d ∣ b * c := Nat.dvd_trans g1 (Nat.dvd_mul_left _ _)
      have q2 : Nat.gcd c d ∣ a * d := Nat.dvd_trans g2 (Nat.dvd_mul_left _ _)
      rw [det] at q1
      exact Nat.dvd_one.mp ((Nat.dvd_add_right q2).mp q1)
    have gg : ((Int.gcd ((b : Int) * b * c) ((b : Int) * b * d) : Nat) : Int) = (b : Int) * b := by
      rw [Int.gcd_mul_left, co, Nat.mul_one, Int.natAbs_mul, Int.natAbs_natCast, Int.natCast_mul]
    rw [t1, gg]
    have bb : (0 : Int) < (b : Int) * b := Int.mul_pos (by omega) (by omega)
    have q3 : CDivW ((b : Int) * b * c) ((b : Int) * b) := divB bb (by rw [← Int.natCast_mul]; exact bdN (Nat.le_trans (mx _ _ (by omega) (by omega)) (by decide))) (by omega)
    have q4 : CDivW ((b : Int) * b * d) ((b : Int) * b) := divB bb (by rw [← Int.natCast_mul]; exact bdN (Nat.le_trans (mx _ _ (by omega) (by omega)) (by decide))) (by omega)
    refine ⟨q3, q4, ?_⟩
    have nz : (b : Int) * b ≠ 0 := by omega
    have v1 : (b : Int) * b * c / (b * b) = c := Int.mul_ediv_cancel_left _ nz
    have v2 : (b : Int) * b * d / (b * b) = d := Int.mul_ediv_cancel_left _ nz
    show LrV n L (i + 1) [_, _, _, _, .im (.int ((b : Int) * b * c / (b * b))), .im (.int ((b : Int) * b * d / (b * b))), _, _, _, _, _]
    rw [v1, v2]
    exact ⟨c, d, _, _, _, _, _, hq, rfl⟩
  · rintro e2 ⟨a, b, z1, z2, z3, z4, z5, hi, rfl⟩
    have : min (L.map pd).length (R.map pd).length = pre.length := by
      have e1 : L.length = R.length + 1 := by rw [eR]; rfl
      have e2 : L.length = pre.length + 1 := by rw [eL]; simp
      simp
      omega
    rw [this, eL] at hi
    simp at hi
    obtain ⟨rfl, rfl⟩ := hi
    simp
    have hm := hL.mirrored ⟨pre, eL⟩
    refine comp_tup (ds := (L.map pd).reverse) (e1 := [.im (.int n), .im (.tuple (L.map pd)), .im (.int (1 + (sumP n : Nat))), .un, .im (.int 1), .im (.int 1), z1, z2, z3, z4, z5]) (fun Q h => by simpa using h)
      (fun i acc e => acc = ((L.reverse.map mir).take i).map pd ∧ e = [.im (.int n), .im (.tuple (L.map pd)), .im (.int (1 + (sumP n : Nat))), .un, .im (.int 1), .im (.int 1), .un, .un, z3, z4, z5]) (by simp) ?_ ?_
    · rintro i d acc e2 hd ⟨rfl, rfl⟩
      rw [← List.map_reverse] at hd
      obtain ⟨⟨a, b⟩, hq, rfl⟩ := map_get hd
      have hmi : (L.reverse.map mir)[i]? = some (mir (a, b)) := by rw [List.getElem?_map, hq]; rfl
      have hab : a ≤ b := by
        have hmem : (a, b) ∈ L.reverse := mem_get hq
        rw [List.mem_reverse] at hmem
        obtain ⟨j, hj, ej⟩ := List.mem_iff_getElem.mp hmem
        have ej' : L[j]? = some (a, b) := by rw [List.getElem?_eq_getElem hj, ej]
        by_cases c : j + 1 < L.length
        · exact (hL.nb j _ _ ej' (List.getElem?_eq_getElem c)).ab
        · rw [eL] at ej' hj
          simp at hj
          have : j = pre.length := by
            rw [eL] at c
            simp at c
            omega
          subst this
          simp at ej'
          omega
      rw [take_S hmi]
      rw [show pd (a, b) = .tuple [.int (a : Nat), .int (b : Nat)] from rfl]
      simp [pd, mir]
      refine ⟨Nat.lt_of_le_of_lt (show _ ≤ 3000 by rw [hlen]; omega) (by decide), ?_⟩
      omega
    · rintro acc e2 ⟨rfl, rfl⟩
      have et : ((L.reverse.map mir).take (L.map pd).reverse.length).map pd = L.map pd := by
        rw [hm]
        simp
      rw [et]
      simp
      refine gEq_self (n := 2) (pl_tup fun d hd => ?_) (by decide) ?_
      · rw [List.mem_map] at hd
        obtain ⟨x, _, rfl⟩ := hd
        exact pl_pair
      simp
      refine comp_rng2 (i0 := 1) (j := (n : Int) + 1) (e1 := [.im (.int n), .im (.tuple (L.map pd)), .im (.int (1 + (sumP n : Nat))), .un, .im (.int 1), .im (.int 1), .un, .un, z3, z4, z5]) (fun S h => by simpa using h) (by omega) (fun i acc e => acc = (phs i).map PyData.int ∧ e = [.im (.int n), .im (.tuple (L.map pd)), .im (.int (1 + (sumP n : Nat))), .un, .im (.int 1), .im (.int 1), .un, .un, z3, z4, z5]) (by simp [phs]) ?_ ?_
      · rintro i acc e2 hi ⟨rfl, rfl⟩
        simp
        rw [show (1 : Int) + (i : Int) = ((i + 1 : Nat) : Int) by omega]
        refine sp_phi (by omega) (by omega) ⟨?_, ?_⟩
        · rw [phs_len]; exact small1000 (by omega)
        · rw [phs_S]; simp
      rintro acc e2 ⟨rfl, rfl⟩
      simp
      refine comp_rng2 (i0 := 1) (j := (n : Int) + 1) (e1 := [.im (.int n), .im (.tuple (L.map pd)), .im (.int (1 + (sumP n : Nat))), .un, .im (.int 1), .im (.int 1), .un, .un, z3, z4, z5]) (fun S h => by simpa using h) (by omega) (fun i acc e => acc = (phs i).map PyData.int ∧ e = [.im (.int n), .im (.tuple (L.map pd)), .im (.int (1 + (sumP n : Nat))), .un, .im (.int 1), .im (.int 1), .un, .un, z3, z4, z5]) (by simp [phs]) ?_ ?_
      · rintro i acc e2 hi ⟨rfl, rfl⟩
        simp
        rw [show (1 : Int) + (i : Int) = ((i + 1 : Nat) : Int) by omega]
        refine sp_law_phi (by omega) (by omega) (lph_ok (by omega) (by omega)) ⟨?_, ?_⟩
        · rw [phs_len]; exact small1000 (by omega)
        · rw [phs_S]; simp
      rintro acc e2 ⟨rfl, rfl⟩
      simp
      refine gEq_self (n := 1) (pl_list fun d hd => ?_) (by decide) hP
      rw [List.mem_map] at hd
      obtain ⟨x, _, rfl⟩ := hd
      exact pl_int
end Nk07

namespace Nk07
open PySem PySem.Spec PyProof.Rows L2 DL
theorem sp_is_lowest {x y : Int} {P : D → Prop} (x1 : -FAR < x) (x2 : x < FAR) (y0 : 0 < y) (y2 : y < FAR) (hg : Int.gcd x y = 1) (h : P (.bool true)) : C_is_lowest [.tuple [.int x, .int y]] P := by
  refine u_is_lowest ?_
  simp [t_is_lowest]
  refine sp_is_pair ?_
  simp
  refine comp_runT (ds := [.int x, .int y]) (e1 := [.im (.tuple [.int x, .int y]), .un]) (fun Q z => by simpa using z) ?_
  rw [runC_cons]
  simp
  refine sp_is_near x1 x2 ?_
  refine ⟨sz (by decide), ?_⟩
  rw [runC_cons]
  simp
  refine sp_is_near (by unfold FAR at *; omega) y2 ?_
  refine ⟨sz (by decide), ?_⟩
  rw [runC_nil]
  simp [y0]
  refine sp_common_divisor ?_
  rw [hg]
  simpa using h
theorem sp_is_in_row {n x y : Int} {P : D → Prop} (hn : n ≤ 1000) (x1 : 0 ≤ x) (x2 : x ≤ y) (y0 : 0 < y) (y2 : y ≤ n) (hg : Int.gcd x y = 1) (h : P (.bool true)) : C_is_in_row [.int n, .tuple [.int x, .int y]] P := by
  refine u_is_in_row ?_
  simp [t_is_in_row]
  refine sp_is_lowest (by unfold FAR; omega) (by unfold FAR; omega) y0 (by unfold FAR; omega) hg ?_
  simp [x1, x2, y2, h]
theorem sp_divisor_in {x y : Int} {P : D → Prop} (h : P (.int (Int.gcd x y : Nat))) : C_divisor_in [.tuple [.int x, .int y]] P := by
  refine u_divisor_in ?_
  simp [t_divisor_in]
  refine while_by (fun m e => ∃ l r : Int, e = [.im (.tuple [.int x, .int y]), .im (.int l), .im (.int r)] ∧ 0 ≤ l ∧ 0 ≤ r ∧ r.toNat = m ∧ Int.gcd l r = Int.gcd x y) ⟨_, _, _, rfl, ?_, ?_, rfl, ?_⟩ ?_
  · split <;> omega
  · split <;> omega
  · split <;> split <;> simp
  · rintro m e ⟨l, r, rfl, hl, hr, rfl, hg⟩
    simp
    split
    · next hz =>
      subst hz
      rw [← hg] at h
      simp at h
      have e : ((l.natAbs : Nat) : Int) = l := by omega
      rw [e] at h
      exact h
    · next hz =>
      have := Int.emod_lt_of_pos l (show 0 < r by omega)
      have := Int.emod_nonneg l hz
      refine ⟨by omega, _, ?_, _, _, ⟨rfl, rfl⟩, hr, ?_, rfl, ?_⟩
      · omega
      · omega
      · rw [gcd_step hl (by omega), hg]
theorem sp_require_point {x y : Int} {P : D → Prop} (x1 : -1000 ≤ x) (x2 : x ≤ 1000) (y1 : -1000 ≤ y) (y2 : y ≤ 1000) (h : P .none) : C_require_point [.tuple [.int x, .int y]] P := by
  refine u_require_point ?_
  simp [t_require_point]
  exact sp_is_point_in x1 x2 y1 y2 (by simpa using h)
theorem sp_do_see {x y z w : Int} {P : D → Prop} (x1 : -1000 ≤ x) (x2 : x ≤ 1000) (y1 : -1000 ≤ y) (y2 : y ≤ 1000) (z1 : -1000 ≤ z) (z2 : z ≤ 1000) (w1 : -1000 ≤ w) (w2 : w ≤ 1000) (hg : Int.gcd (z - x) (w - y) = 1) (h : P (.bool true)) : C_do_see [.tuple [.int x, .int y], .tuple [.int z, .int w]] P := by
  refine u_do_see ?_
  simp [t_do_see]
  refine u_require_points ?_
  unfold t_require_points
  refine for_runL (ds := [.tuple [.int x, .int y], .tuple [.int z, .int w]]) (e1 := [.im (.list [.tuple [.int x, .int y], .tuple [.int z, .int w]]), .un]) (fun Q z => by simpa using z) ?_
  rw [run_cons]
  simp
  refine sp_require_point x1 x2 y1 y2 ?_
  rw [run_cons]
  simp
  refine sp_require_point z1 z2 w1 w2 ?_
  rw [run_nil]
  simp
  refine u_step_in ?_
  simp [t_step_in]
  refine sp_divisor_in ?_
  rw [hg]
  simpa using h
/-- the way down -/
inductive Ch (a0 b0 c0 d0 : Int) : List Int → Int → Int → Int → Int → Prop
  | nil : Ch a0 b0 c0 d0 [] a0 b0 c0 d0
  | snoc {ws : List Int} {a b c d : Int} : Ch a0 b0 c0 d0 ws a b c d → Two a b c d → Bd 200 a → Bd 200 b → Bd 200 c → Bd 200 d → ¬ ((a / b + 1) * d < c) → ¬ (a - a / b * b = 0) → Ch a0 b0 c0 d0 (ws ++ [a / b]) d (c - a / b * d) b (a - a / b * b)
structure SiA (a0 b0 c0 d0 : Int) (m : Nat) (e : DL.Env) (ws : List Int) (a b c d : Int) (z1 z2 z3 z4 o1 o2 : Sl) : Prop where
  he : e = [o1, o2, .im (.int a), .im (.int b), .im (.int c), .im (.int d), .mu (.lst (ws.map PyData.int)), .im .none, z1, z2, z3, z4]
  ch : Ch a0 b0 c0 d0 ws a b c d
  T : Two a b c d
  ba : Bd 200 a
  bb : Bd 200 b
  bc : Bd 200 c
  bd : Bd 200 d
  ends : ∃ r, S m a b c d = some r
  hl : ws.length + m ≤ 900
structure SiB (a0 b0 c0 d0 : Int) (m : Nat) (e : DL.Env) (ws : List Int) (a b c d p q : Int) (k : Nat) (s1 s2 s3 s4 z1 z2 z3 z4 o1 o2 : Sl) : Prop where
  he : e = [o1, o2, s1, s2, s3, s4, .mu (.lst (ws.map PyData.int)), .im (.tuple [.int p, .int q]), z1, z2, z3, z4]
  ch : Ch a0 b0 c0 d0 ws a b c d
  T : Two a b c d
  ba : Bd 200 a
  bb : Bd 200 b
  bc : Bd 200 c
  bd : Bd 200 d
  ends : S k a b c d = some (p, q)
  hm : m = 0
def SiV (a0 b0 c0 d0 : Int) (m : Nat) (e : DL.Env) : Prop := (∃ ws a b c d z1 z2 z3 z4 o1 o2, SiA a0 b0 c0 d0 m e ws a b c d z1 z2 z3 z4 o1 o2) ∨ (∃ ws a b c d p q k s1 s2 s3 s4 z1 z2 z3 z4 o1 o2, SiB a0 b0 c0 d0 m e ws a b c d p q k s1 s2 s3 s4 z1 z2 z3 z4 o1 o2)
theorem whole_bd {a b : Int} (hb : 0 < b) (ba : Bd 200 a) : Bd 201 (a / b) := by
  rcases Int.lt_or_le a 0 with z | z
  · have e := Int.le_ediv_of_mul_le (a := a) (b := a) hb (by have : a * b ≤ a * 1 := Int.mul_le_mul_of_nonpos_left (by omega) (by omega); omega)
    have f : a / b < 0 := Int.ediv_neg_of_neg_of_pos z hb
    exact (ba.le (by omega)).mono (by omega)
  · have f := Int.ediv_nonneg z (Int.le_of_lt hb)
    have g := Int.ediv_le_self b z
    exact (ba.le (by omega)).mono (by omega)
theorem simplest_back (f : Sl → Int → Int → DL.Env) (b : DSt) (D0 : DEnds) (gg : DTg) (a0 b0 c0 d0 : Int)
    (hstep : ∀ (z : Sl) (w p q : Int) (rest : List D), CMulW w p → (∀ z, runF gg b D0 rest (f z (w * p + q) p)) → runF gg b D0 (.int w :: rest) (f z p q))
    (hend : ∀ z k p q, S k a0 b0 c0 d0 = some (p, q) → D0.nx (f z p q)) : ∀ {ws : List Int} {a b' c d : Int}, Ch a0 b0 c0 d0 ws a b' c d → Two a b' c d → Bd 200 a → Bd 200 b' → Bd 200 c → Bd 200 d → ∀ z k p q, S k a b' c d = some (p, q) → runF gg b D0 ((ws.map PyData.int).reverse) (f z p q) := by
  intro ws a b' c d h
  induction h with
  | nil => intro T h1 h2 h3 h4 z k p q hS; exact hend z k p q hS
  | @snoc ws a b' c d hch T ba bb bc bd n1 n2 ih =>
    intro T2 h1 h2 h3 h4 z k p q hS
    have B := (S_best k _ _ _ _ p q T2 hS).bd T2 h1 h2 h3 h4
    rw [List.map_append, List.reverse_append]
    refine hstep z (a / b') p q _ (mulB (whole_bd T.hb ba) B.2 (by omega) (by omega)) fun z' => ?_
    refine ih T ba bb bc bd z' (k + 1) _ _ ?_
    unfold S
    rw [if_neg n1, if_neg n2, hS]
theorem sp_simplest_in {a b c d : Int} {P : D → Prop} (T0 : Two a b c d) (ba : Bd 200 a) (bb : Bd 200 b) (bc : Bd 200 c) (bd : Bd 200 d) {k : Nat} (hk : k ≤ 900) (hb : b < fib k)
    (hP : ∀ p q, Best a b c d p q → P (.tuple [.int p, .int q])) : C_simplest_in [.tuple [.int a, .int b], .tuple [.int c, .int d]] P := by
  refine u_simplest_in ?_
  simp [t_simplest_in]
  refine while_by (SiV a b c d) ⟨k, .inl ⟨[], a, b, c, d, _, _, _, _, _, _, rfl, .nil, T0, ba, bb, bc, bd, S_ends T0 hb, by simpa using hk⟩⟩ ?_
  rintro m e (⟨ws, a', b', c', d', z1, z2, z3, z4, o1, o2, rfl, ch, T, ba, bb, bc, bd, ⟨r, hr⟩, hl⟩ | ⟨ws, a', b', c', d', p, q, k', s1, s2, s3, s4, z1, z2, z3, z4, o1, o2, rfl, ch, T, ba, bb, bc, bd, hr, hm⟩)
  · simp
    have hw := whole_bd T.hb ba
    have hB := T.below
    have hb' := T.hb
    have hd' := T.hd
    have hr' := Two.rest (a := a') hb'
    have bw1 : Bd 403 (a' / b' + 1) := (hw.add b1).mono (by omega)
    refine ⟨divB hb' bb (by omega), mulB hw bb (by omega) (by omega), mulB hw bd (by omega) (by omega), mulB bw1 bd (by omega) (by omega), ?_⟩
    cases m with
    | zero => cases hr
    | succ m =>
      by_cases n1 : (a' / b' + 1) * d' < c'
      · rw [if_pos n1]
        refine ⟨0, by omega, .inr ⟨ws, a', b', c', d', _, _, 1, _, _, _, _, _, _, _, _, _, _, rfl, ch, T, ba, bb, bc, bd, ?_, rfl⟩⟩
        unfold S
        rw [if_pos n1]
      · rw [if_neg n1]
        have hle : c' - a' / b' * d' ≤ d' := by
          have n1' := n1
          rw [Int.add_mul] at n1'
          omega
        have bB : Bd 200 (c' - a' / b' * d') := bd.le (by omega)
        by_cases n2 : a' - a' / b' * b' = 0
        · rw [if_pos n2]
          have q0 : 0 ≤ d' / (c' - a' / b' * d') := Int.ediv_nonneg (Int.le_of_lt hd') (Int.le_of_lt hB)
          have q1 := Int.ediv_le_self (c' - a' / b' * d') (Int.le_of_lt hd')
          have bq : Bd 200 (d' / (c' - a' / b' * d')) := bd.le (by omega)
          refine ⟨divB hB bB (by omega), mulB hw (bq.add b1) (by omega) (by omega), 0, by omega, .inr ⟨ws, a', b', c', d', _, _, 1, _, _, _, _, _, _, _, _, _, _, rfl, ch, T, ba, bb, bc, bd, ?_, rfl⟩⟩
          unfold S
          rw [if_neg n1, if_pos n2]
        · rw [if_neg n2]
          have br : Bd 200 (a' - a' / b' * b') := bb.le (by omega)
          refine ⟨sz (by omega), m, by omega, .inl ⟨ws ++ [a' / b'], d', c' - a' / b' * d', b', a' - a' / b' * b', _, _, _, _, _, _, by simp; exact ⟨rfl, rfl, rfl, rfl, rfl, rfl⟩, .snoc ch T ba bb bc bd n1 n2, T.turn n2, bd, bB, bb, br, ?_, by simp; omega⟩⟩
          unfold S at hr
          rw [if_neg n1, if_neg n2] at hr
          cases z : S m d' (c' - a' / b' * d') b' (a' - a' / b' * b') with
          | none => rw [z] at hr; cases hr
          | some r => exact ⟨r, rfl⟩
  · simp
    refine for_runL (ds := (ws.map PyData.int).reverse) (e1 := [o1, o2, s1, s2, s3, s4, .im (.list (ws.map PyData.int)), .im (.tuple [.int p, .int q]), z1, z2, z3, z4]) (fun Q z => by simpa using z) ?_
    refine simplest_back (fun z p q => [o1, o2, s1, s2, s3, s4, .im (.list (ws.map PyData.int)), .im (.tuple [.int p, .int q]), z, z2, z3, z4]) _ _ _ a b c d ?_ ?_ ch T ba bb bc bd z1 k' p q hr
    · intro z w p q rest hm h
      rw [run_cons]
      simp
      exact ⟨hm, h _⟩
    · intro z k p q hS
      simp
      exact hP p q (S_best k _ _ _ _ p q T0 hS)
theorem sp_simplest_between {a b c d : Int} {P : D → Prop} (T : Two a b c d) (a1 : -FAR < a) (a2 : a < FAR) (b2 : b < FAR) (c1 : -FAR < c) (c2 : c < FAR) (d2 : d < FAR) (g1 : Int.gcd a b = 1) (g2 : Int.gcd c d = 1) {k : Nat} (hk : k ≤ 900) (hb : b < fib k)
    (hP : ∀ p q, Best a b c d p q → P (.tuple [.int p, .int q])) : C_simplest_between [.tuple [.int a, .int b], .tuple [.int c, .int d]] P := by
  have fb : ∀ x : Int, -FAR < x → x < FAR → Bd 200 x := fun x h1 h2 => Nat.lt_of_lt_of_le (show x.natAbs < 1000000000000000000000000000000000000000000000000000000000000 by unfold FAR at *; omega) (by decide)
  have hb' := T.hb
  have hd' := T.hd
  have F0 : (0 : Int) < FAR := by unfold FAR; omega
  have ba := fb a a1 a2
  have bb := fb b (by omega) b2
  have bc := fb c c1 c2
  have bd := fb d (by omega) d2
  refine u_simplest_between ?_
  simp [t_simplest_between]
  refine sp_is_lowest a1 a2 hb' b2 g1 ?_
  simp
  refine sp_is_lowest c1 c2 hd' d2 g2 ?_
  simp
  refine ⟨mulB ba bd (by omega) (by omega), mulB bc bb (by omega) (by omega), by have := T.lt; omega, ?_⟩
  exact sp_simplest_in T ba bb bc bd hk hb hP
end Nk07

namespace Nk07
open PySem PySem.Spec PyProof.Rows L2 DL
/-- (c, d) just ahead of (a, b) -/
structure Ah (n a b c d : Int) : Prop where
  det : a * d - b * c = 1
  lo : n - b < d
  hi : d ≤ n
theorem Ah.uniq {n a b c d c' d' : Int} (hb : 0 < b) (h : Ah n a b c d) (h' : Ah n a b c' d') : c = c' ∧ d = d' := by
  have e1 := h.det
  have e2 := h'.det
  have key : b ∣ a * (d - d') := ⟨c - c', by rw [Int.mul_sub, Int.mul_sub]; omega⟩
  have co : Int.gcd b a = 1 := by
    have g1 : ((Int.gcd b a : Nat) : Int) ∣ 1 := by
      rw [← e1]
      exact Int.dvd_sub (Int.dvd_trans (Int.gcd_dvd_right b a) (Int.dvd_mul_right _ _)) (Int.dvd_trans (Int.gcd_dvd_left b a) (Int.dvd_mul_right _ _))
    have := Int.natCast_dvd_natCast.mp (show ((Int.gcd b a : Nat) : Int) ∣ ((1 : Nat) : Int) from g1)
    exact Nat.dvd_one.mp this
  have dv : b ∣ d - d' := co_dvd key co
  obtain ⟨t, ht⟩ := dv
  have l1 := h.lo
  have l2 := h.hi
  have l3 := h'.lo
  have l4 := h'.hi
  have t0 : t = 0 := by
    rcases Int.lt_trichotomy t 0 with z | z | z
    · have : b * t ≤ b * (-1) := Int.mul_le_mul_of_nonneg_left (by omega) (by omega)
      omega
    · exact z
    · have : b * 1 ≤ b * t := Int.mul_le_mul_of_nonneg_left (by omega) (by omega)
      omega
  subst t0
  have ed : d = d' := by omega
  subst ed
  refine ⟨?_, rfl⟩
  have : b * c = b * c' := by omega
  exact Int.eq_of_mul_eq_mul_left (by omega) this
theorem Ah.ex {n a b : Int} (ha : 0 ≤ a) (hb : 0 < b) (hg : Int.gcd a b = 1) : ∃ c d, Ah n a b c d := by
  obtain ⟨x, y, h⟩ := bez ha (Int.le_of_lt hb)
  rw [hg] at h
  have m1 := Int.emod_lt_of_pos (n - x) hb
  have m2 := Int.emod_nonneg (n - x) (show b ≠ 0 by omega)
  have m3 := Int.emod_add_mul_ediv (n - x) b
  refine ⟨a * ((n - x) / b) - y, n - (n - x) % b, ?_, by omega, by omega⟩
  have e : n - (n - x) % b = x + b * ((n - x) / b) := by omega
  rw [e, Int.mul_add, Int.mul_sub]
  have e1 : x * a = a * x := Int.mul_comm _ _
  have e2 : y * b = b * y := Int.mul_comm _ _
  have e3 : a * (b * ((n - x) / b)) = b * (a * ((n - x) / b)) := Int.mul_left_comm _ _ _
  omega
def okk (a b lo : Int) (k : Nat) : Bool := decide ((a * (lo + k) - 1) % b = 0)
theorem sp_ahead_in_row {n a b : Int} {P : D → Prop} (hb : 0 < b) (ha : 0 ≤ a) (hab : a ≤ b) (hn : b ≤ n) (n1 : n ≤ 1000) (hg : Int.gcd a b = 1)
    (hP : ∀ c d, Ah n a b c d → P (.tuple [.int c, .int d])) : C_ahead_in_row [.int n, .tuple [.int a, .int b]] P := by
  refine u_ahead_in_row ?_
  simp [t_ahead_in_row]
  have em : (if 1 < n - b + 1 then n - b + 1 else 1) = n - b + 1 := by split <;> omega
  refine comp_rng2 (i0 := n - b + 1) (j := n + 1) (e1 := [.im (.int n), .im (.tuple [.int a, .int b]), .im (.int a), .im (.int b), .un, .un]) (fun S h => by simp; rw [em]; exact h) (by omega)
    (fun i acc e => acc = ((List.range i).filter (okk a b (n - b + 1))).map (fun k => .int (n - b + 1 + (k : Nat))) ∧ e = [.im (.int n), .im (.tuple [.int a, .int b]), .im (.int a), .im (.int b), .un, .un]) (by simp) ?_ ?_
  · rintro i acc e2 hi ⟨rfl, rfl⟩
    have cm : CMulW a (n - b + 1 + (i : Nat)) := mulB (k := 101) (m := 101) (bdI (by omega)) (bdI (by omega)) (by omega) (by omega)
    have hl : ((List.range i).filter (okk a b (n - b + 1))).length ≤ i := by
      have := List.length_filter_le (okk a b (n - b + 1)) (List.range i)
      simpa using this
    simp
    refine ⟨cm, hb, ?_⟩
    rw [List.range_succ, List.filter_append]
    by_cases c : (a * (n - b + 1 + (i : Nat)) - 1) % b = 0
    · rw [if_pos c]
      have : okk a b (n - b + 1) i = true := decide_eq_true c
      refine ⟨Nat.lt_of_le_of_lt hl (small1000 (by omega)), ?_⟩
      simp [this]
    · rw [if_neg c]
      have : okk a b (n - b + 1) i = false := decide_eq_false c
      simp [this]
  · rintro acc e2 ⟨rfl, rfl⟩
    have ej : (n + 1 - (n - b + 1)).toNat = b.toNat := by omega
    rw [ej]
    obtain ⟨c0, d0, A⟩ := Ah.ex (n := n) ha hb hg
    have hmem : (d0 - (n - b + 1)).toNat ∈ (List.range b.toNat).filter (okk a b (n - b + 1)) := by
      have l1 := A.lo
      have l2 := A.hi
      rw [List.mem_filter, List.mem_range]
      refine ⟨by omega, decide_eq_true ?_⟩
      rw [show n - b + 1 + ((d0 - (n - b + 1)).toNat : Nat) = d0 by omega, show a * d0 - 1 = b * c0 by have := A.det; omega]
      exact Int.mul_emod_right _ _
    cases hf : (List.range b.toNat).filter (okk a b (n - b + 1)) with
    | nil => rw [hf] at hmem; cases hmem
    | cons k r =>
      have hk : k ∈ (List.range b.toNat).filter (okk a b (n - b + 1)) := by rw [hf]; exact List.mem_cons_self ..
      rw [List.mem_filter, List.mem_range] at hk
      obtain ⟨hk1, hk2⟩ := hk
      have hk2 := of_decide_eq_true hk2
      generalize hd : n - b + 1 + (k : Nat) = d at *
      have cm : CMulW a d := mulB (k := 101) (m := 101) (bdI (by omega)) (bdI (by omega)) (by omega) (by omega)
      have dv : CDivW (a * d - 1) b := divB hb (bdI (by omega) : Bd 101 _) (by omega)
      rw [List.map_cons, hd]
      have ez : ∀ r : List D, atI ((.int d : D) :: r) 0 = some (.int d) := fun r => atI_nat (j := 0) rfl
      simp
      rw [ez]
      simp
      refine ⟨cm, dv, ?_⟩
      refine hP _ d ⟨?_, by omega, by omega⟩
      have := Int.mul_ediv_add_emod (a * d - 1) b
      omega
/-- what farey_neighbours tells of (a, b) -/
def ahD (n a b : Int) (x : D) : Prop := (a = 0 ∧ x = .none) ∨ (a ≠ 0 ∧ ∃ c d, Ah n a b c d ∧ x = .tuple [.int c, .int d])
theorem gcd_mir {a b : Int} : Int.gcd (b - a) b = Int.gcd a b := by
  rw [Int.gcd_comm (b - a) b, Int.gcd_comm a b]
  have h1 : Int.gcd b (b - a) ∣ Int.gcd b a := Int.dvd_gcd (Int.gcd_dvd_left ..) (by
    have := Int.dvd_sub (Int.gcd_dvd_left b (b - a)) (Int.gcd_dvd_right b (b - a))
    rw [show b - (b - a) = a by omega] at this
    exact this)
  have h2 : Int.gcd b a ∣ Int.gcd b (b - a) := Int.dvd_gcd (Int.gcd_dvd_left ..) (Int.dvd_sub (Int.gcd_dvd_left b a) (Int.gcd_dvd_right b a))
  exact Nat.dvd_antisymm h1 h2
theorem sp_require_countI {n : Int} {P : D → Prop} (h1 : 1 ≤ n) (hn : n ≤ 1000) (hP : P .none) : C_require_count [.int n] P := by
  obtain ⟨m, rfl⟩ := Int.eq_ofNat_of_zero_le (show 0 ≤ n by omega)
  exact sp_require_count (by omega) (by omega) hP
theorem sp_farey_neighbours {n a b : Int} {P : D → Prop} (ha : 0 ≤ a) (hab : a < b) (hn : b ≤ n) (n1 : n ≤ 1000) (hg : Int.gcd a b = 1)
    (hP : ∀ x g h, ahD n a b x → b * g - a * h = 1 → n - b < h → h ≤ n → P (.tuple [x, .tuple [.int g, .int h]])) : C_farey_neighbours [.int n, .tuple [.int a, .int b]] P := by
  refine u_farey_neighbours ?_
  simp [t_farey_neighbours]
  refine sp_require_countI (by omega) n1 ?_
  refine sp_is_in_row n1 ha (by omega) (by omega) hn hg ?_
  simp
  refine u_neighbours_in_row ?_
  simp [t_neighbours_in_row]
  have hne : ¬ a = b := by omega
  have rest : ∀ c' d', Ah n (b - a) b c' d' → b * (d' - c') - a * d' = 1 := fun c' d' A => by
    have := A.det
    rw [Int.sub_mul] at this
    rw [Int.mul_sub]
    omega
  by_cases c : a = 0
  · rw [if_pos c, if_neg hne]
    refine sp_ahead_in_row (by omega) (by omega) (by omega) hn n1 (by rw [gcd_mir]; exact hg) fun c' d' A => ?_
    simp
    exact hP _ _ _ (.inl ⟨c, rfl⟩) (rest _ _ A) A.lo A.hi
  · rw [if_neg c]
    refine sp_ahead_in_row (by omega) ha (by omega) hn n1 hg fun c1 d1 A1 => ?_
    rw [if_neg hne]
    refine sp_ahead_in_row (by omega) (by omega) (by omega) hn n1 (by rw [gcd_mir]; exact hg) fun c' d' A => ?_
    simp
    exact hP _ _ _ (.inr ⟨c, _, _, A1, rfl⟩) (rest _ _ A) A.lo A.hi
theorem sp_farey_neighbours1 {n : Int} {P : D → Prop} (h1 : 1 ≤ n) (n1 : n ≤ 1000) (hP : P (.tuple [.tuple [.int (n - 1), .int n], .none])) : C_farey_neighbours [.int n, .tuple [.int 1, .int 1]] P := by
  refine u_farey_neighbours ?_
  simp [t_farey_neighbours]
  refine sp_require_countI (by omega) n1 ?_
  refine sp_is_in_row n1 (by omega) (by omega) (by omega) h1 (by decide) ?_
  simp
  refine u_neighbours_in_row ?_
  simp [t_neighbours_in_row]
  refine sp_ahead_in_row (by omega) (by omega) (by omega) h1 n1 (by decide) fun c' d' A => ?_
  have e1 := A.det
  have e2 := A.lo
  have e3 := A.hi
  rw [show c' = n - 1 by omega, show d' = n by omega]
  exact hP
structure UnW (a n : Int) (m : Nat) (e : DL.Env) (h t o f : Int) (z : Sl) : Prop where
  he : e = [.im (.int a), .im (.int n), .im (.int h), .im (.int t), .im (.int o), .im (.int f), z]
  hm : h.toNat = m
  h0 : 0 ≤ h
  ht : h < t
  tn : t ≤ n
  d1 : n ∣ o * a - h
  d2 : n ∣ f * a - t
  eu : Eu n t h f o
  hg : Int.gcd t h = 1
  bf : f.natAbs ≤ n.natAbs
def UnV (a n : Int) (m : Nat) (e : DL.Env) : Prop := ∃ h t o f z, UnW a n m e h t o f z
theorem sp_law_undone {a n : Int} {P : D → Prop} (hn : 1 < n) (n1 : n ≤ 1000) (ha : 0 ≤ a) (ha2 : a ≤ 1000) (hg : Int.gcd a n = 1) (hP : ∀ p, 0 ≤ p → p < n → n ∣ p * a - 1 → P (.int p)) : C__law_undone [.int a, .int n] P := by
  refine u__law_undone ?_
  have m1 := Int.emod_lt_of_pos a (show 0 < n by omega)
  have m2 := Int.emod_nonneg a (show n ≠ 0 by omega)
  have m3 := Int.emod_add_mul_ediv a n
  simp [t__law_undone]
  refine ⟨by omega, while_by (UnV a n) ⟨_, a % n, n, 1, 0, _, rfl, rfl, m2, m1, Int.le_refl _, ⟨a / n, by omega⟩, ⟨-1, by omega⟩, ⟨.inr ⟨by omega, by omega, by omega⟩⟩, ?_, by omega⟩ ?_⟩
  · rw [gcd_step ha (by omega), hg]
  rintro m e ⟨h, t, o, f, z, rfl, rfl, h0, ht, tn, d1, d2, eu, hg', bf⟩
  simp
  by_cases c : h = 0
  · rw [if_pos c]
    subst c
    have t1 : t = 1 := by
      rw [Int.gcd_zero_right] at hg'
      omega
    subst t1
    refine ⟨by omega, hP _ (Int.emod_nonneg _ (by omega)) (Int.emod_lt_of_pos _ (by omega)) ?_⟩
    obtain ⟨u, hu⟩ := d2
    have m4 := Int.emod_add_mul_ediv f n
    refine ⟨u - f / n * a, ?_⟩
    have : f % n = f - n * (f / n) := by omega
    rw [this, Int.sub_mul, Int.mul_sub, ← hu]
    have e1 : n * (f / n) * a = n * (f / n * a) := Int.mul_assoc _ _ _
    omega
  · rw [if_neg c]
    have hz : 0 < h := by omega
    have t0 : 0 ≤ t / h := Int.ediv_nonneg (by omega) (by omega)
    have t1 : t / h ≤ t := Int.ediv_le_self _ (by omega)
    have bo := eu.small (by omega) h0
    have eu2 := eu.step (by omega) hz
    have r1 := Int.emod_lt_of_pos t hz
    have r2 := Int.emod_nonneg t (show h ≠ 0 by omega)
    have r3 : t - t / h * h = t % h := by
      have := Int.emod_add_mul_ediv t h
      have e : h * (t / h) = t / h * h := Int.mul_comm _ _
      omega
    refine ⟨divB hz (bdI (by omega) : Bd 101 _) (by omega), mulB (k := 101) (m := 101) (bdI (by omega)) (bdI (by omega)) (by omega) (by omega), mulB (k := 101) (m := 101) (bdI (by omega)) (bdI (by omega)) (by omega) (by omega), _, ?_, t - t / h * h, h, f - t / h * o, o, _, rfl, rfl, by omega, by omega, by omega, ?_, d1, eu2, ?_, bo⟩
    · omega
    · obtain ⟨u, hu⟩ := d1
      obtain ⟨v, hv⟩ := d2
      refine ⟨v - t / h * u, ?_⟩
      generalize t / h = q at *
      rw [Int.mul_sub, ← hv]
      have e1 : n * (q * u) = q * (n * u) := Int.mul_left_comm _ _ _
      rw [e1, ← hu]
      grind
    · rw [r3, gcd_step (by omega) hz, hg']
theorem sp_law_neighbours {n a b : Int} {P : D → Prop} (ha : 0 < a) (hab : a < b) (hn : b ≤ n) (n1 : n ≤ 1000) (hg : Int.gcd a b = 1)
    (hP : ∀ c d g h, Ah n a b c d → b * g - a * h = 1 → n - b < h → h ≤ n → P (.tuple [.tuple [.int c, .int d], .tuple [.int g, .int h]])) : C__law_neighbours [.int n, .int a, .int b] P := by
  refine u__law_neighbours ?_
  simp [t__law_neighbours]
  rw [if_pos (by omega)]
  refine sp_law_undone (by omega) (by omega) (by omega) (by omega) hg fun p p0 p1 hp => ?_
  simp
  have m1 := Int.emod_lt_of_pos (n - p) (show 0 < b by omega)
  have m2 := Int.emod_nonneg (n - p) (show b ≠ 0 by omega)
  have m3 := Int.emod_add_mul_ediv (n - p) b
  have m4 := Int.emod_lt_of_pos (n + p) (show 0 < b by omega)
  have m5 := Int.emod_nonneg (n + p) (show b ≠ 0 by omega)
  have m6 := Int.emod_add_mul_ediv (n + p) b
  generalize (n - p) % b = u at *
  generalize (n + p) % b = v at *
  generalize (n - p) / b = s at *
  generalize (n + p) / b = t at *
  obtain ⟨w, hw⟩ := hp
  have ed : n - u = p + b * s := by omega
  have eh : n - v = b * t - p := by omega
  have q1 : a * (n - u) - 1 = b * (w + a * s) := by
    rw [ed, Int.mul_add, Int.mul_add]
    have e1 : p * a = a * p := Int.mul_comm _ _
    have e2 : a * (b * s) = b * (a * s) := Int.mul_left_comm _ _ _
    omega
  have q2 : a * (n - v) + 1 = b * (a * t - w) := by
    rw [eh, Int.mul_sub, Int.mul_sub]
    have e1 : p * a = a * p := Int.mul_comm _ _
    have e2 : a * (b * t) = b * (a * t) := Int.mul_left_comm _ _ _
    omega
  have c1 : (a * (n - u) - 1) / b = w + a * s := by rw [q1]; exact Int.mul_ediv_cancel_left _ (by omega)
  have c2 : (a * (n - v) + 1) / b = a * t - w := by rw [q2]; exact Int.mul_ediv_cancel_left _ (by omega)
  have bB : Bd 101 b := bdI (by omega)
  refine ⟨by omega, mulB (k := 101) (m := 101) (bdI (by omega)) (bdI (by omega)) (by omega) (by omega), divB (by omega) bB (by omega), by omega, mulB (k := 101) (m := 101) (bdI (by omega)) (bdI (by omega)) (by omega) (by omega), divB (by omega) bB (by omega), ?_⟩
  rw [c1, c2]
  exact hP _ _ _ _ ⟨by omega, by omega, by omega⟩ (by omega) (by omega) (by omega)
end Nk07

namespace Nk07
open PySem PySem.Spec PyProof.Rows L2 DL
theorem fib20 : (6000 : Int) < fib 20 := by decide +kernel
theorem pl_pp {a b c d : Int} : Pl 2 (.tuple [.tuple [.int a, .int b], .tuple [.int c, .int d]]) := pl_tup fun x hx => by
  simp at hx
  rcases hx with rfl | rfl <;> exact pl_pair
theorem pl_np {c d : Int} : Pl 2 (.tuple [.none, .tuple [.int c, .int d]]) := pl_tup fun x hx => by
  simp at hx
  rcases hx with rfl | rfl
  · exact pl_none
  · exact pl_pair
theorem pl_pn {c d : Int} : Pl 2 (.tuple [.tuple [.int c, .int d], .none]) := pl_tup fun x hx => by
  simp at hx
  rcases hx with rfl | rfl
  · exact pl_pair
  · exact pl_none
theorem back_uniq {n a b g h g' h' : Int} (hb : 0 < b) (e : b * g - a * h = 1) (l : n - b < h) (u : h ≤ n) (e' : b * g' - a * h' = 1) (l' : n - b < h') (u' : h' ≤ n) : g = g' ∧ h = h' := by
  have A1 : Ah n (b - a) b (h - g) h := ⟨by rw [Int.sub_mul, Int.mul_sub]; omega, l, u⟩
  have A2 : Ah n (b - a) b (h' - g') h' := ⟨by rw [Int.sub_mul, Int.mul_sub]; omega, l', u'⟩
  have q := Ah.uniq hb A1 A2
  omega
theorem det_gcd {a b c d : Int} (h : a * d - b * c = 1) : Int.gcd c d = 1 := by
  have g1 : ((Int.gcd c d : Nat) : Int) ∣ 1 := by
    rw [← h]
    exact Int.dvd_sub (Int.dvd_trans (Int.gcd_dvd_right c d) (Int.dvd_mul_left _ _)) (Int.dvd_trans (Int.gcd_dvd_left c d) (Int.dvd_mul_left _ _))
  exact Nat.dvd_one.mp (Int.natCast_dvd_natCast.mp (show ((Int.gcd c d : Nat) : Int) ∣ ((1 : Nat) : Int) from g1))
/-- all that is known of the three -/
structure Tri (n a b c d g h : Int) : Prop where
  A : Ah n a b c d
  e : b * g - a * h = 1
  l : n - b < h
  u : h ≤ n
  d0 : 0 < d
  h0 : 0 < h
  c0 : 0 ≤ c
  cd : c < d
  g0 : 0 ≤ g
  gh : g ≤ h
theorem tri {n a b c d g h : Int} (ha : 0 < a) (hab : a < b) (hbn : b ≤ n) (A : Ah n a b c d) (e : b * g - a * h = 1) (l : n - b < h) (u : h ≤ n) : Tri n a b c d g h := by
  have det := A.det
  have lo := A.lo
  have d0 : 0 < d := by omega
  have h0 : 0 < h := by omega
  have k1 : 0 < a * d := Int.mul_pos ha d0
  have k2 : 0 < a * h := Int.mul_pos ha h0
  have k3 : (a + 1) * d ≤ b * d := Int.mul_le_mul_of_nonneg_right (by omega) (by omega)
  have k4 : (a + 1) * h ≤ b * h := Int.mul_le_mul_of_nonneg_right (by omega) (by omega)
  rw [Int.add_mul] at k3 k4
  have hb : 0 < b := by omega
  refine ⟨A, e, l, u, d0, h0, ?_, ?_, ?_, ?_⟩
  · rcases Int.lt_or_le c 0 with z | z
    · have : b * c ≤ b * (-1) := Int.mul_le_mul_of_nonneg_left (by omega) (by omega)
      omega
    · exact z
  · exact Int.lt_of_mul_lt_mul_left (a := b) (by omega) (by omega)
  · rcases Int.lt_or_le g 0 with z | z
    · have : b * g ≤ b * (-1) := Int.mul_le_mul_of_nonneg_left (by omega) (by omega)
      omega
    · exact z
  · exact Int.le_of_mul_le_mul_left (a := b) (by omega) hb
theorem sp_neighbours_right {cs : Ow} {P : D → Ow → Prop} (hd : Dice cs) (h : ∀ cs', Dice cs' → P (.bool true) cs') : C__law_neighbours_right cs [] P := by
  refine u__law_neighbours_right ?_
  simp [t__law_neighbours_right]
  refine sp_one_of hd (by decide) (by decide) fun i x cs1 hx hd1 => ?_
  have hx' : ∃ t : Int, x = .int t ∧ (t = 8 ∨ t = 100 ∨ t = 999) := by
    match i, hx with
    | 0, hx => exact ⟨8, (Option.some.inj hx).symm, by omega⟩
    | 1, hx => exact ⟨100, (Option.some.inj hx).symm, by omega⟩
    | 2, hx => exact ⟨999, (Option.some.inj hx).symm, by omega⟩
    | i + 3, hx => simp at hx
  obtain ⟨t, rfl, ht⟩ := hx'
  refine sp_roll hd1 (by omega) (by omega) fun r cs2 r0 r1 hd2 => ?_
  generalize hn : 2 + r = n
  simp [hn]
  refine sp_roll hd2 (by omega) (by omega) fun r2 cs3 r20 r21 hd3 => ?_
  generalize hb0 : 2 + r2 = b0
  simp [hb0]
  refine sp_roll hd3 (by omega) (by omega) fun r3 cs4 r30 r31 hd4 => ?_
  generalize ha0 : 1 + r3 = a0
  simp [ha0]
  refine sp_law_common ?_
  have h' := h cs4 hd4
  clear h
  obtain ⟨a, b, ea, eb, ma, mb, hg, hb, hgp⟩ := parts (t := a0) (b := b0) (by omega)
  generalize hG : ((Int.gcd a0 b0 : Nat) : Int) = G at *
  have ha : 0 < a := Int.pos_of_mul_pos_left (b := G) (by omega) hgp
  have hab : a < b := Int.lt_of_mul_lt_mul_right (a := G) (by omega) (by omega)
  have hGb : G ≤ 1000 := by
    have : 1 * G ≤ b * G := Int.mul_le_mul_of_nonneg_right hb (by omega)
    omega
  have hbn : b ≤ n := by
    have : b * 1 ≤ b * G := Int.mul_le_mul_of_nonneg_left hgp (by omega)
    omega
  have n1 : n ≤ 1000 := by omega
  have GB : Bd 101 G := bdI (by omega)
  simp
  refine ⟨divB hgp GB (by omega), divB hgp GB (by omega), ?_⟩
  rw [ea, eb]
  clear ea eb ma mb hG GB hGb hd1 hd2 hd3 hd hd4 hx
  refine sp_farey_neighbours (by omega) hab hbn n1 hg fun x g h hx he hl hu => ?_
  rcases hx with ⟨z, _⟩ | ⟨_, c, d, A, rfl⟩
  · omega
  refine sp_law_neighbours ha hab hbn n1 hg fun c' d' g' h1 A' e1 e2 e3 => ?_
  obtain ⟨rfl, rfl⟩ := A'.uniq hb A
  obtain ⟨rfl, rfl⟩ := back_uniq hb e1 e2 e3 he hl hu
  refine gNe_self pl_pp (by decide) ?_
  simp
  refine sp_farey_neighbours (by omega) (by omega) (by omega) n1 (by decide) fun x g h hx he hl hu => ?_
  rcases hx with ⟨_, rfl⟩ | ⟨z, _⟩
  · rw [show g = 1 by omega, show h = n by omega]
    refine gNe_self pl_np (by decide) ?_
    simp
    refine sp_farey_neighbours1 (by omega) n1 ?_
    refine gNe_self pl_pn (by decide) ?_
    simp
    refine sp_farey_neighbours (by omega) hab hbn n1 hg fun x g h hx he hl hu => ?_
    rcases hx with ⟨z, _⟩ | ⟨_, c, d, A, rfl⟩
    · omega
    have T := tri ha hab hbn A he hl hu
    clear A' e1 e2 e3 A he hl hu
    simp
    have A := T.A
    have det := A.det
    have lo := A.lo
    have hi := A.hi
    have te := T.e
    have tl := T.l
    have tu := T.u
    have d0 := T.d0
    have h0 := T.h0
    have c0 := T.c0
    have cd := T.cd
    have g0 := T.g0
    have gh := T.gh
    have sm : ∀ x y : Int, 0 ≤ x → x ≤ 1000 → 0 ≤ y → y ≤ 2000 → CMulW x y := fun x y h1 h2 h3 h4 => mulB (k := 101) (m := 101) (bdI (by omega)) (bdI (by omega)) (by omega) (by omega)
    have sm' : ∀ x y : Int, 0 ≤ x → x ≤ 2000 → 0 ≤ y → y ≤ 2000 → CMulW x y := fun x y h1 h2 h3 h4 => mulB (k := 101) (m := 101) (bdI (by omega)) (bdI (by omega)) (by omega) (by omega)
    have nf : ∀ x : Int, 0 ≤ x → x ≤ 1000 → -FAR < x ∧ x < FAR := fun x h1 h2 => by unfold FAR; omega
    have gcd1 : Int.gcd c d = 1 := det_gcd det
    have gcd2 : Int.gcd g h = 1 := by
      have : b * g - a * h = 1 := te
      refine det_gcd (a := -a) (b := -b) (c := g) (d := h) ?_
      rw [Int.neg_mul, Int.neg_mul]; omega
    refine ⟨sm _ _ (by omega) (by omega) (by omega) (by omega), sm _ _ (by omega) (by omega) (by omega) (by omega), ?_⟩
    rw [if_pos det]
    refine ⟨sm _ _ (by omega) (by omega) (by omega) (by omega), sm _ _ (by omega) (by omega) (by omega) (by omega), ?_⟩
    rw [if_pos te]
    refine ⟨sm' _ _ (by omega) (by omega) (by omega) (by omega), sm' _ _ (by omega) (by omega) (by omega) (by omega), ?_⟩
    rw [if_pos (by rw [Int.add_mul, Int.mul_add]; have e1 : c * b = b * c := Int.mul_comm _ _; have e2 : g * b = b * g := Int.mul_comm _ _; omega)]
    refine sp_farey_neighbours c0 cd hi n1 gcd1 fun x g2 h2 _ he2 hl2 hu2 => ?_
    have ecb : d * a - c * b = 1 := by
      have e1 : d * a = a * d := Int.mul_comm _ _
      have e2 : c * b = b * c := Int.mul_comm _ _
      omega
    obtain ⟨rfl, rfl⟩ := back_uniq d0 he2 hl2 hu2 ecb (by omega) hbn
    simp
    have k1 : c * h2 < g2 * d := by
      have e1 : g2 * d = d * g2 := Int.mul_comm _ _
      omega
    have k2 : g2 * h < g * h2 := by
      have e1 : g * h2 = h2 * g := Int.mul_comm _ _
      omega
    have fb : ∀ x : Int, x ≤ 1000 → x < fib 20 := fun x hx => Int.lt_of_le_of_lt hx (Int.lt_trans (by decide) fib20)
    refine sp_simplest_between (k := 20) ⟨d0, hb, k1⟩ (nf c (by omega) (by omega)).1 (nf c (by omega) (by omega)).2 (nf d (by omega) (by omega)).2 (nf g2 (by omega) (by omega)).1 (nf g2 (by omega) (by omega)).2 (nf h2 (by omega) (by omega)).2 gcd1 hg (by omega) (fb d (by omega)) fun p q B => ?_
    obtain ⟨rfl, rfl⟩ := B.uniq (best_sum hb d0 c0 (Int.le_of_lt ha) (by omega))
    simp
    refine sp_simplest_between (k := 20) ⟨hb, h0, k2⟩ (nf g2 (by omega) (by omega)).1 (nf g2 (by omega) (by omega)).2 (nf h2 (by omega) (by omega)).2 (nf g (by omega) (by omega)).1 (nf g (by omega) (by omega)).2 (nf h (by omega) (by omega)).2 hg gcd2 (by omega) (fb h2 (by omega)) fun p q B2 => ?_
    obtain ⟨rfl, rfl⟩ := B2.uniq (best_sum (a := g) (b := h) h0 hb (Int.le_of_lt ha) g0 (by
      have e1 : g * h2 = h2 * g := Int.mul_comm _ _
      have e2 : h * g2 = g2 * h := Int.mul_comm _ _
      omega))
    rw [Int.add_comm g g2, Int.add_comm h h2]
    simp
    have k3 : c * h < g * d := by
      refine Int.lt_of_mul_lt_mul_right (a := h2) ?_ (Int.le_of_lt hb)
      have q1 : c * h2 * h < g2 * d * h := Int.mul_lt_mul_of_pos_right k1 h0
      have q2 : g2 * h * d < g * h2 * d := Int.mul_lt_mul_of_pos_right k2 d0
      have e1 : c * h * h2 = c * h2 * h := by grind
      have e2 : g * d * h2 = g * h2 * d := by grind
      have e3 : g2 * d * h = g2 * h * d := by grind
      omega
    refine sp_simplest_between (k := 20) ⟨d0, h0, k3⟩ (nf c (by omega) (by omega)).1 (nf c (by omega) (by omega)).2 (nf d (by omega) (by omega)).2 (nf g (by omega) (by omega)).1 (nf g (by omega) (by omega)).2 (nf h (by omega) (by omega)).2 gcd1 gcd2 (by omega) (fb d (by omega)) fun p q B3 => ?_
    have lw := B3.low g2 h2 hb k1 k2
    simp
    rw [if_neg (by omega)]
    refine sp_do_see (by omega) (by omega) (by omega) (by omega) (by omega) (by omega) (by omega) (by omega) (by simpa using hg) ?_
    simp
    by_cases cc : 1000 < h2 + d
    · rw [decide_eq_true cc]
      exact h'
    · rw [decide_eq_false cc]
      refine sp_do_see (by omega) (by omega) (by omega) (by omega) (by omega) (by omega) (by omega) (by omega) ?_ ?_
      · rw [show g2 + c - c = g2 by omega, show h2 + d - d = h2 by omega]
        exact hg
      · simp
        exact h'
  · omega
end Nk07

namespace Nk07
open PySem PySem.Spec PyProof.Rows L2 DL
theorem fib226 : (100000000000000000000000000000000000000000 : Int) < fib 226 := by decide +kernel
def pp (p : Int × Int) : D := .tuple [.int p.1, .int p.2]
/-- a drawn fraction -/
structure Fr (p : Int × Int) : Prop where
  b0 : 0 < p.2
  b1 : p.2 ≤ 20000000000000000000000000000000000000000
  a0 : -20000000000000000000000000000000000000000 ≤ p.1
  a1 : p.1 ≤ 20000000000000000000000000000000000000000
  co : Int.gcd p.1 p.2 = 1
theorem sr_tail {cs : Ow} {P : D → Ow → Prop} {a b c d : Int} {s1 s2 s3 s4 s5 s6 s7 s8 s9 : Sl} (F1 : Fr (a, b)) (F2 : Fr (c, d)) (T : Two a b c d) (h' : P (.bool true) cs) :
    C_simplest_between [PyData.tuple [PyData.int a, PyData.int b], PyData.tuple [PyData.int c, PyData.int d]]
                fun d_1 =>
                dgTup 2 (dgCons (dgName 13) (dgCons (dgName 14) dgNil)) d_1
                  [Sl.bo cs, s1, s2, s3, s4, s5, s6, s7, s8, s9,
                    Sl.im (PyData.tuple [PyData.int a, PyData.int b]),
                    Sl.im (PyData.tuple [PyData.int c, PyData.int d]), Sl.im d_1, Sl.un, Sl.un, Sl.un]
                  (dSeq
                    (dIfS
                      (dOr (dB (dBin gNe (dVar 12) (dCall C__law_simplest (dCons (dVar 10) (dCons (dVar 11) dNil)))))
                        (dOr
                          (dNot
                            (dAnd
                              (dB
                                (dBin gLt (dBin gMul (dBin gIx (dVar 10) (dC (PyData.int 0))) (dVar 14))
                                  (dBin gMul (dVar 13) (dBin gIx (dVar 10) (dC (PyData.int 1))))))
                              (dB
                                (dBin gLt (dBin gMul (dVar 13) (dBin gIx (dVar 11) (dC (PyData.int 1))))
                                  (dBin gMul (dBin gIx (dVar 11) (dC (PyData.int 0))) (dVar 14))))))
                          (dB
                            (dBin gNe (dCall C__law_common (dCons (dVar 13) (dCons (dVar 14) dNil)))
                              (dC (PyData.int 1))))))
                      (dRet (dC (PyData.bool false))) dPass)
                    (dSeq (dIfS (dB (dBin gGt (dVar 14) (dC (PyData.int 300)))) (dRet (dC (PyData.bool true))) dPass)
                      (dSeq
                        (dFor (dRng2 (dCons (dC (PyData.int 1)) (dCons (dVar 14) dNil))) (dgName 15)
                          (dIfS
                            (dB
                              (dBin gLt
                                (dBin gMul
                                  (dBin gAdd
                                    (dBin gDiv (dBin gMul (dBin gIx (dVar 10) (dC (PyData.int 0))) (dVar 15))
                                      (dBin gIx (dVar 10) (dC (PyData.int 1))))
                                    (dC (PyData.int 1)))
                                  (dBin gIx (dVar 11) (dC (PyData.int 1))))
                                (dBin gMul (dBin gIx (dVar 11) (dC (PyData.int 0))) (dVar 15))))
                            (dRet (dC (PyData.bool false))) dPass))
                        (dRet
                          (dBin gEq
                            (dBin gAdd
                              (dBin gDiv (dBin gMul (dBin gIx (dVar 10) (dC (PyData.int 0))) (dVar 14))
                                (dBin gIx (dVar 10) (dC (PyData.int 1))))
                              (dC (PyData.int 1)))
                            (dVar 13)))))
                    { nx := fun e => lentEnd P PyData.none e, rt := lentEnd P }) := by
  have b0 : 0 < b := F1.b0
  have b1 : b ≤ 20000000000000000000000000000000000000000 := F1.b1
  have a0 : -20000000000000000000000000000000000000000 ≤ a := F1.a0
  have a1 : a ≤ 20000000000000000000000000000000000000000 := F1.a1
  have co1 : Int.gcd a b = 1 := F1.co
  have d0 : 0 < d := F2.b0
  have d1 : d ≤ 20000000000000000000000000000000000000000 := F2.b1
  have c0 : -20000000000000000000000000000000000000000 ≤ c := F2.a0
  have c1 : c ≤ 20000000000000000000000000000000000000000 := F2.a1
  have co2 : Int.gcd c d = 1 := F2.co
  have bd : ∀ x : Int, -20000000000000000000000000000000000000000 ≤ x → x ≤ 20000000000000000000000000000000000000000 → Bd 200 x := fun x h1 h2 => Nat.lt_of_le_of_lt (show x.natAbs ≤ 20000000000000000000000000000000000000000 by omega) (by decide)
  have ba := bd a a0 a1
  have bb := bd b (by omega) b1
  have bc := bd c c0 c1
  have bdd := bd d (by omega) d1
  have hf : b < fib 226 := Int.lt_of_le_of_lt (show b ≤ 100000000000000000000000000000000000000000 by omega) fib226
  refine sp_simplest_between (k := 226) T (by unfold FAR; omega) (by unfold FAR; omega) (by unfold FAR; omega) (by unfold FAR; omega) (by unfold FAR; omega) (by unfold FAR; omega) co1 co2 (by omega) hf fun p q B => ?_
  obtain ⟨⟨p', q'⟩, hS⟩ := S_ends T hf
  obtain ⟨rfl, rfl⟩ := B.uniq (S_best _ _ _ _ _ _ _ T hS)
  have bpq := B.bd T ba bb bc bdd
  have lo := B.lo
  have hi := B.hi
  have hq := B.hq
  simp
  refine sp_law_simplest a b c d p q _ T hS ba bb bc bdd ?_
  simp
  refine ⟨mulB ba bpq.1 (by omega) (by omega), mulB bpq.2 bb (by omega) (by omega), ?_⟩
  rw [if_pos lo]
  refine ⟨mulB bpq.2 bdd (by omega) (by omega), mulB bc bpq.1 (by omega) (by omega), ?_⟩
  rw [if_neg (by omega)]
  refine sp_law_common ?_
  rw [B.co]
  simp
  by_cases c3 : 300 < q
  · rw [if_pos c3]; exact h'
  rw [if_neg c3]
  have wB : ∀ x : Int, 0 ≤ x → x ≤ 300 → Bd 210 (a * x) ∧ CMulW a x ∧ CMulW c x ∧ CDivW (a * x) b ∧ CMulW (a * x / b + 1) d := fun x h1 h2 => by
    have bx : Bd 9 x := Nat.lt_of_le_of_lt (show x.natAbs ≤ 300 by omega) (by decide)
    have bax : Bd 210 (a * x) := (ba.mul bx).mono (by omega)
    have wd : Bd 211 (a * x / b) := by
      rcases Int.lt_or_le (a * x) 0 with z | z
      · have e := Int.le_ediv_of_mul_le (a := a * x) (b := a * x) b0 (by have : a * x * b ≤ a * x * 1 := Int.mul_le_mul_of_nonpos_left (by omega) (by omega); omega)
        have f : a * x / b < 0 := Int.ediv_neg_of_neg_of_pos z b0
        exact (bax.le (by omega)).mono (by omega)
      · have f := Int.ediv_nonneg z (Int.le_of_lt b0)
        have g := Int.ediv_le_self b z
        exact (bax.le (by omega)).mono (by omega)
    exact ⟨bax, mulB ba bx (by omega) (by omega), mulB bc bx (by omega) (by omega), divB b0 bb (by omega), mulB (wd.add (show Bd 1 1 by unfold Bd; decide)) bdd (by omega) (by omega)⟩
  refine for_rng2 (i0 := 1) (j := q) (e1 := [Sl.bo cs, s1, s2, s3, s4, s5, s6, s7, s8, s9, Sl.im (PyData.tuple [PyData.int a, PyData.int b]), Sl.im (PyData.tuple [PyData.int c, PyData.int d]), Sl.im (PyData.tuple [PyData.int p, PyData.int q]), Sl.im (PyData.int p), Sl.im (PyData.int q), Sl.un]) (fun S h => by simpa using h) (by omega)
    (fun _ e => ∃ z, e = [Sl.bo cs, s1, s2, s3, s4, s5, s6, s7, s8, s9, Sl.im (PyData.tuple [PyData.int a, PyData.int b]), Sl.im (PyData.tuple [PyData.int c, PyData.int d]), Sl.im (PyData.tuple [PyData.int p, PyData.int q]), Sl.im (PyData.int p), Sl.im (PyData.int q), z]) ⟨_, rfl⟩ ?_ ?_
  · rintro i e2 hi ⟨z, rfl⟩
    obtain ⟨w1, w2, w3, w4, w5⟩ := wB (1 + (i : Nat)) (by omega) (by omega)
    have x0 : (0 : Int) < 1 + (i : Nat) := by omega
    have lw := B.low (a * (1 + (i : Nat)) / b + 1) (1 + (i : Nat)) x0 (div_hi b0)
    simp
    refine ⟨w2, w4, w5, w3, ?_⟩
    intro z
    have := lw z
    omega
  · rintro e2 ⟨z, rfl⟩
    obtain ⟨w1, w2, w3, w4, w5⟩ := wB q (by omega) (by omega)
    simp
    refine ⟨w2, w4, ?_⟩
    have hp1 : a * q / b < p := by
      refine lt_of_mul b0 ?_
      have := div_lo (a := a * q) b0
      omega
    have hp2 : p ≤ a * q / b + 1 := by
      refine B.top _ q hq (div_hi b0) ?_ (.inr rfl)
      have : (a * q / b + 1) * d ≤ p * d := Int.mul_le_mul_of_nonneg_right (by omega) (by omega)
      omega
    rw [decide_eq_true (show a * q / b + 1 = p by omega)]
    exact h'
def SrV (t G : Int) (i : Nat) (e : DL.Env) : Prop := ∃ (cs : Ow) (ps : List (Int × Int)) (z4 z5 z6 z7 : Sl), Dice cs ∧ ps.length = i ∧ (∀ p ∈ ps, Fr p) ∧ e = [.bo cs, .im (.int t), .im (.int G), .mu (.lst (ps.map pp)), z4, z5, z6, z7, .un, .un, .un, .un, .un, .un, .un, .un]
theorem sp_simplest_right {cs : Ow} {P : D → Ow → Prop} (hd : Dice cs) (h : ∀ cs', Dice cs' → P (.bool true) cs') : C__law_simplest_right cs [] P := by
  refine u__law_simplest_right ?_
  simp [t__law_simplest_right]
  have p9 : CPow 10 9 := ⟨by decide, by decide, by decide⟩
  have p40 : CPow 10 40 := ⟨by decide, by decide, by decide⟩
  refine ⟨p9, sp_one_of hd (by decide) (by decide) fun i x cs1 hx hd1 => ?_⟩
  have hx' : ∃ t : Int, x = .int t ∧ 0 < t ∧ t ≤ 1000000000 := by
    match i, hx with
    | 0, hx => exact ⟨9, (Option.some.inj hx).symm, by omega, by omega⟩
    | 1, hx => exact ⟨60, (Option.some.inj hx).symm, by omega, by omega⟩
    | 2, hx => exact ⟨1000000000, (Option.some.inj hx).symm, by omega, by omega⟩
    | i + 3, hx => simp at hx
  obtain ⟨t, rfl, t0, t1⟩ := hx'
  refine ⟨p40, sp_one_of hd1 (by decide) (by decide) fun i x cs2 hx hd2 => ?_⟩
  have hx' : ∃ t : Int, x = .int t ∧ 0 ≤ t ∧ t ≤ 10000000000000000000000000000000000000000 := by
    match i, hx with
    | 0, hx => exact ⟨0, (Option.some.inj hx).symm, by omega, by omega⟩
    | 1, hx => exact ⟨0, (Option.some.inj hx).symm, by omega, by omega⟩
    | 2, hx => exact ⟨10000000000000000000000000000000000000000, (Option.some.inj hx).symm, by omega, by omega⟩
    | i + 3, hx => simp at hx
  obtain ⟨G, rfl, G0, G1⟩ := hx'
  refine for_rng1 (j := 2) (e1 := [.bo cs2, .im (.int t), .im (.int G), .mu (.lst []), .un, .un, .un, .un, .un, .un, .un, .un, .un, .un, .un, .un]) (fun S h => by simpa using h) (by omega) (by omega) (SrV t G) ⟨cs2, [], _, _, _, _, hd2, rfl, fun p hp => (by cases hp), rfl⟩ ?_ ?_
  · rintro i e2 hi ⟨cs, ps, z4, z5, z6, z7, hd, hl, hp, rfl⟩
    simp
    refine sp_roll hd t0 (by omega) fun r1 cs3 r10 r11 hd3 => ?_
    simp
    refine ⟨mulB (k := 101) (m := 101) (bdI (by omega)) (bdI (by omega)) (by omega) (by omega), sp_roll hd3 (by omega) (by omega) fun r2 cs4 r20 r21 hd4 => ?_⟩
    simp
    have key : ∀ g : Int, 0 ≤ g → g ≤ G → C__law_common [.int (r2 - t + g), .int (1 + r1 + G)] fun d =>
        gDiv (.int (r2 - t + g)) d fun d_1 => gDiv (.int (1 + r1 + G)) d fun d_2 => ps.length < sizeLine ∧
              SrV t G (i + 1) [Sl.bo cs4, Sl.im (.int t), Sl.im (.int G), Sl.mu (Ow.lst (List.map pp ps ++ [.tuple [d_1, d_2]])), Sl.im (.int (i : Nat)),
                  Sl.im (.int (1 + r1 + G)), Sl.im (.int (r2 - t + g)), Sl.im d, Sl.un, Sl.un, Sl.un, Sl.un, Sl.un, Sl.un, Sl.un, Sl.un] := fun g g0 g1 => by
      refine sp_law_common ?_
      obtain ⟨u, v, eu, ev, m1, m2, co, v0, gp⟩ := parts (t := r2 - t + g) (b := 1 + r1 + G) (by omega)
      generalize hGG : ((Int.gcd (r2 - t + g) (1 + r1 + G) : Nat) : Int) = K at *
      have kB : Bd 200 K := by
        have : 1 * K ≤ v * K := Int.mul_le_mul_of_nonneg_right v0 (by omega)
        exact Nat.lt_of_le_of_lt (show K.natAbs ≤ 20000000000000000000000000000000000000000 by omega) (by decide)
      have vb : v ≤ 1 + r1 + G := by
        have : v * 1 ≤ v * K := Int.mul_le_mul_of_nonneg_left gp (by omega)
        omega
      have ub : u.natAbs ≤ (r2 - t + g).natAbs := by
        rw [m1, Int.natAbs_mul]
        exact Nat.le_mul_of_pos_right _ (by omega)
      simp
      refine ⟨divB gp kB (by omega), divB gp kB (by omega), sz (by omega), ?_⟩
      rw [eu, ev]
      refine ⟨cs4, ps ++ [(u, v)], _, _, _, _, hd4, by simp [hl], fun p hpp => ?_, by simp [pp]; exact ⟨rfl, rfl, rfl, rfl⟩⟩
      rw [List.mem_append] at hpp
      rcases hpp with hpp | hpp
      · exact hp p hpp
      · simp at hpp
        subst hpp
        exact ⟨v0, show v ≤ _ by omega, show _ ≤ u by omega, show u ≤ _ by omega, co⟩
    by_cases c : 0 < G
    · rw [if_pos c]
      have q0 := Int.ediv_nonneg G0 (show (0 : Int) ≤ 3 by omega)
      have q1 := Int.ediv_le_self 3 G0
      exact ⟨divB (by omega) (bdI (by omega) : Bd 101 _) (by omega), key _ q0 q1⟩
    · rw [if_neg c]
      have := key 0 (by omega) G0
      rw [Int.add_zero] at this
      exact this
  · rintro e2 ⟨cs, ps, z4, z5, z6, z7, hd, hl, hp, rfl⟩
    match ps, hl, hp with
    | [p1, p2], hl, hp =>
      have F1 := hp p1 (by simp)
      have F2 := hp p2 (by simp)
      obtain ⟨a, b⟩ := p1
      obtain ⟨c, d⟩ := p2
      simp [pp]
      have h1 := h cs hd
      have b0 : 0 < b := F1.b0
      have d0 : 0 < d := F2.b0
      have ba : ∀ x : Int, -20000000000000000000000000000000000000000 ≤ x → x ≤ 20000000000000000000000000000000000000000 → Bd 200 x := fun x h1 h2 => Nat.lt_of_le_of_lt (show x.natAbs ≤ 20000000000000000000000000000000000000000 by omega) (by decide)
      have m1 : CMulW a d := mulB (ba a F1.a0 F1.a1) (ba d (by omega) F2.b1) (by omega) (by omega)
      have m2 : CMulW b c := mulB (ba b (by omega) F1.b1) (ba c F2.a0 F2.a1) (by omega) (by omega)
      refine ⟨m1, m2, ?_⟩
      by_cases e : a * d = b * c
      · rw [if_pos e]; exact h1
      rw [if_neg e]
      refine ⟨m1, m2, ?_⟩
      have ec : b * c = c * b := Int.mul_comm _ _
      by_cases l : a * d < b * c
      · rw [if_pos l]
        exact sr_tail F1 F2 ⟨b0, d0, by omega⟩ h1
      · rw [if_neg l]
        exact sr_tail F2 F1 ⟨d0, b0, by omega⟩ h1
end Nk07

namespace Nk07
open PySem PySem.Spec PyProof.Rows L2 DL
theorem sp_is_step_in {x y : Int} {P : D → Prop} (x1 : -2000 ≤ x) (x2 : x ≤ 2000) (y1 : -2000 ≤ y) (y2 : y ≤ 2000) (h : P (.bool true)) : C_is_step_in [.tuple [.int x, .int y]] P := by
  refine u_is_step_in ?_
  simp [t_is_step_in]
  refine sp_is_pair ?_
  simp
  refine comp_runT (ds := [.int x, .int y]) (e1 := [.im (.tuple [.int x, .int y]), .un]) (fun Q z => by simpa using z) ?_
  rw [runC_cons]
  simp
  refine sp_is_within x1 x2 ?_
  refine ⟨sz (by decide), ?_⟩
  rw [runC_cons]
  simp
  refine sp_is_within y1 y2 ?_
  refine ⟨sz (by decide), ?_⟩
  rw [runC_nil]
  simp [h]
theorem sp_makers_of {P : D → Prop} (h : ∀ x y : Int, x * 355 + y * 113 = 1 → Bd 101 x → Bd 101 y → P (.tuple [.int x, .int y])) : C_makers_of_divisor [.tuple [.int 355, .int 113]] P := by
  refine u_makers_of_divisor ?_
  simp [t_makers_of_divisor]
  refine u_require_way ?_
  simp [t_require_way]
  refine u_require_step ?_
  simp [t_require_step]
  refine sp_is_step_in (by omega) (by omega) (by omega) (by omega) ?_
  simp
  refine sp_makers_in (by omega) (by omega) (bdI (by decide)) (bdI (by decide)) fun x y e h1 h2 => h x y ?_ h1 h2
  rw [e]
  decide
theorem sp_known {a b c d p q : Int} {P : D → Prop} (T : Two a b c d) (h1 : 0 ≤ a ∧ a ≤ 1000 ∧ b ≤ 1000 ∧ 0 ≤ c ∧ c ≤ 1000 ∧ d ≤ 1000) (g1 : Int.gcd a b = 1) (g2 : Int.gcd c d = 1) (hS : S 20 a b c d = some (p, q)) (hP : P (.tuple [.int p, .int q])) : C_simplest_between [.tuple [.int a, .int b], .tuple [.int c, .int d]] P := by
  refine sp_simplest_between (k := 20) T (by unfold FAR; omega) (by unfold FAR; omega) (by unfold FAR; omega) (by unfold FAR; omega) (by unfold FAR; omega) (by unfold FAR; omega) g1 g2 (by omega) (Int.lt_of_le_of_lt h1.2.2.1 (Int.lt_trans (by decide) fib20)) fun p' q' B => ?_
  obtain ⟨rfl, rfl⟩ := B.uniq (S_best _ _ _ _ _ _ _ T hS)
  exact hP
def LwI (ns : List Int) (_ : Nat) (e : DL.Env) : Prop := ∃ z1 z2, e = [.im (scriptOf ns), z1, z2, .un, .un]
theorem law_true : ∀ ns : List Int, ns.length ≤ 63 → C_law [scriptOf ns] (· = .bool true) := by
  intro ns hns
  refine u_law ?_
  unfold t_law
  rw [s_seq]
  have hj : ∃ j : Int, 1 ≤ j ∧ j ≤ 2 ∧ (if 1 < (if (ns.length : Int) < 2 then (ns.length : Int) else 2) then (if (ns.length : Int) < 2 then (ns.length : Int) else 2) else 1) = j := ⟨_, by split <;> split <;> omega, by split <;> split <;> omega, rfl⟩
  obtain ⟨j, j1, j2, ej⟩ := hj
  refine for_rng1 (j := j) (e1 := [.im (scriptOf ns), .un, .un, .un, .un]) (fun S z => ?_) (by omega) (by omega) (LwI ns) ⟨_, _, rfl⟩ ?_ ?_
  · rw [← ej] at z
    unfold scriptOf at z ⊢
    simp
    exact z
  · rintro i e2 hi ⟨z1, z2, rfl⟩
    simp
    refine sp_dice (by omega) fun cs hd => ?_
    try simp
    refine sp_one_of hd (by decide) (by decide) fun i x cs1 hx hd1 => ?_
    have hx' : ∃ t : Int, x = .int t ∧ 0 < t ∧ t ≤ 90 := by
      match i, hx with
      | 0, hx => exact ⟨9, (Option.some.inj hx).symm, by omega, by omega⟩
      | 1, hx => exact ⟨90, (Option.some.inj hx).symm, by omega, by omega⟩
      | i + 2, hx => simp at hx
    obtain ⟨t, rfl, t0, t1⟩ := hx'
    try simp
    refine sp_roll hd1 t0 (by omega) fun r cs2 r0 r1 hd2 => ?_
    obtain ⟨m, hm⟩ := Int.eq_ofNat_of_zero_le (show 0 ≤ 1 + r by omega)
    simp [hm]
    refine sp_law_row_right (by omega) (by omega) ?_
    simp
    refine sp_neighbours_right hd2 fun cs3 hd3 => ?_
    simp
    refine sp_neighbours_right hd3 fun cs4 hd4 => ?_
    simp
    refine sp_simplest_right hd4 fun cs5 hd5 => ?_
    simp
    refine sp_simplest_right hd5 fun cs6 hd6 => ?_
    simp
    refine sp_simplest_right hd6 fun cs7 hd7 => ?_
    simp
    exact ⟨_, _, rfl⟩
  · rintro e2 ⟨z1, z2, rfl⟩
    simp
    refine sp_makers_of fun x y e h1 h2 => ?_
    simp
    refine ⟨mulB (bdI (by decide) : Bd 101 _) h1 (by omega) (by omega), mulB (bdI (by decide) : Bd 101 _) h2 (by omega) (by omega), ?_⟩
    rw [decide_eq_true (show 355 * x + 113 * y = 1 by omega)]
    simp
    refine sp_known (p := 25) (q := 8) ⟨by decide, by decide, by decide⟩ (by decide) (by decide) (by decide) (by decide +kernel) ?_
    simp
    refine sp_known (p := 629) (q := 2) ⟨by decide, by decide, by decide⟩ (by decide) (by decide) (by decide) (by decide +kernel) ?_
    simp
    refine sp_farey_size (n := 1000) (by omega) (by omega) ?_
    rw [sumP1000]
    simp
end Nk07

namespace Nk07
open PySem PySem.Spec PyProof.Rows L2 DL
def top (i : Nat) : Stmt := PySem.Challenge.pw_gridhulls_k07_whole_rows_of_farey.main.body.getD i (.Pass ⟨0, 0, 0, 0⟩)
structure Gl (K : PySem.W.Frag) (mg : Str → Option Value) : Prop where
  c_FAR : GC K mg "FAR" (.int FAR)
  c_MOST_LISTED : GC K mg "MOST_LISTED" (.int 5000)
  c_MOST_NUMBER : GC K mg "MOST_NUMBER" (.int 1000)
  c_MOST_PLACE : GC K mg "MOST_PLACE" (.int 1000)
  c_MOST_STEP : GC K mg "MOST_STEP" (.int 2000)
  c_PAIR_SIZE : GC K mg "PAIR_SIZE" (.int 2)
  n_abs : mg "abs" = none
  n_all : mg "all" = none
  n_bool : mg "bool" = none
  n_int : mg "int" = none
  n_isinstance : mg "isinstance" = none
  n_len : mg "len" = none
  n_max : mg "max" = none
  n_min : mg "min" = none
  n_range : mg "range" = none
  n_sum : mg "sum" = none
  n_tuple : mg "tuple" = none
  n_zip : mg "zip" = none
section
variable {P : Program} {w : World} {K : PySem.W.Frag} {mg : Str → Option Value} {base : Heap}
abbrev s_is_whole : Stmt := top 10
theorem sc_is_whole : FnScope N_is_whole ["value"] (defScope s_is_whole) := ⟨rfl, rfl, rfl, by decide +kernel, rfl, by decide +kernel, by decide +kernel⟩
theorem cal_is_whole (A : DefAt K mg "is_whole" s_is_whole ["value"]) (g : Gl K mg)  : Cal P w K mg base 1 "is_whole" (spD K C_is_whole) := by
  refine cal_d A sc_is_whole t_is_whole (by rfl) (fun f cdv A outer s H E hr => ?_)
  have nd := sc_is_whole.nd
  exact (dss_one (ds_ret (de_and (de_isi (de_var 0 (pv 0)) (pe_bltn (by rfl) g.n_int (by decide +kernel) rfl) (fun ta h => pe_callB call_isi (by rfl) g.n_isinstance (by decide +kernel) h)) (de_one (de_not (de_isi (de_var 0 (pv 0)) (pe_bltn (by rfl) g.n_bool (by decide +kernel) rfl) (fun ta h => pe_callB call_isi (by rfl) g.n_isinstance (by decide +kernel) h)))))))

abbrev s_is_near : Stmt := top 11
theorem sc_is_near : FnScope N_is_near ["value"] (defScope s_is_near) := ⟨rfl, rfl, rfl, by decide +kernel, rfl, by decide +kernel, by decide +kernel⟩
theorem cal_is_near (A : DefAt K mg "is_near" s_is_near ["value"]) (g : Gl K mg) (h_is_whole : Cal P w K mg base 1 "is_whole" (spD K C_is_whole)) : Cal P w K mg base 2 "is_near" (spD K C_is_near) := by
  refine cal_d A sc_is_near t_is_near (by rfl) (fun f cdv A outer s H E hr => ?_)
  have nd := sc_is_near.nd
  exact (dss_one (ds_ret (de_and (calD h_is_whole (hr.mono (by decide)) cld_mono (da_cons (de_var 0 (pv 0)) da_nil)) (de_one (de_chain op_lt op_lt os_B0 os_B0.op (de_neg (gv g.c_FAR)) (de_var 0 (pv 0)) (gv g.c_FAR))))))

abbrev s_is_within : Stmt := top 12
theorem sc_is_within : FnScope N_is_within ["value", "least", "most"] (defScope s_is_within) := ⟨rfl, rfl, rfl, by decide +kernel, rfl, by decide +kernel, by decide +kernel⟩
theorem cal_is_within (A : DefAt K mg "is_within" s_is_within ["value", "least", "most"]) (g : Gl K mg) (h_is_whole : Cal P w K mg base 1 "is_whole" (spD K C_is_whole)) : Cal P w K mg base 2 "is_within" (spD K C_is_within) := by
  refine cal_d A sc_is_within t_is_within (by rfl) (fun f cdv A outer s H E hr => ?_)
  have nd := sc_is_within.nd
  exact (dss_one (ds_ret (de_and (calD h_is_whole (hr.mono (by decide)) cld_mono (da_cons (de_var 0 (pv 0)) da_nil)) (de_one (de_chain op_le op_le os_B0 os_B0.op (de_var 1 (pv 1)) (de_var 0 (pv 0)) (de_var 2 (pv 2)))))))

abbrev s_is_pair : Stmt := top 13
theorem sc_is_pair : FnScope N_is_pair ["value"] (defScope s_is_pair) := ⟨rfl, rfl, rfl, by decide +kernel, rfl, by decide +kernel, by decide +kernel⟩
theorem cal_is_pair (A : DefAt K mg "is_pair" s_is_pair ["value"]) (g : Gl K mg)  : Cal P w K mg base 1 "is_pair" (spD K C_is_pair) := by
  refine cal_d A sc_is_pair t_is_pair (by rfl) (fun f cdv A outer s H E hr => ?_)
  have nd := sc_is_pair.nd
  exact (dss_one (ds_ret (de_and (de_isi (de_var 0 (pv 0)) (pe_bltn (by rfl) g.n_tuple (by decide +kernel) rfl) (fun ta h => pe_callB call_isi (by rfl) g.n_isinstance (by decide +kernel) h)) (de_one (de_cmp (op_eqD hr.units) os_eq.op (calBi call_len_seq oa_len g.n_len (da_cons (de_var 0 (pv 0)) da_nil)) (gv g.c_PAIR_SIZE) (nomark _))))))

abbrev s_require_number : Stmt := top 14
theorem sc_require_number : FnScope N_require_number ["value", "least", "most"] (defScope s_require_number) := ⟨rfl, rfl, rfl, by decide +kernel, rfl, by decide +kernel, by decide +kernel⟩
theorem cal_require_number (A : DefAt K mg "require_number" s_require_number ["value", "least", "most"]) (g : Gl K mg) (h_is_near : Cal P w K mg base 2 "is_near" (spD K C_is_near)) : Cal P w K mg base 3 "require_number" (spD K C_require_number) := by
  refine cal_d A sc_require_number t_require_number (by rfl) (fun f cdv A outer s H E hr => ?_)
  have nd := sc_require_number.nd
  exact (dss_one (ds_if (DW.te (dw_or (dt_not (dt_val (calD h_is_near (hr.mono (by decide)) cld_mono (da_cons (de_var 0 (pv 0)) da_nil)))) (dw_or (DW.te (dw_and (dt_cmp op_notN os_notN.op (de_var 1 (pv 1)) de_non (nomark _)) (dw_and1 (dt_cmp op_lt os_B0.op (de_var 0 (pv 0)) (de_var 1 (pv 1)) (nomark _))))) (dw_or1 (DW.te (dw_and (dt_cmp op_notN os_notN.op (de_var 2 (pv 2)) de_non (nomark _)) (dw_and1 (dt_cmp op_gt os_B0.op (de_var 0 (pv 0)) (de_var 2 (pv 2)) (nomark _))))))))) (dss_one ds_never) dss_nil))

abbrev s_common_divisor : Stmt := top 15
theorem sc_common_divisor : FnScope N_common_divisor ["one", "other"] (defScope s_common_divisor) := ⟨rfl, rfl, rfl, by decide +kernel, rfl, by decide +kernel, by decide +kernel⟩
theorem cal_common_divisor (A : DefAt K mg "common_divisor" s_common_divisor ["one", "other"]) (g : Gl K mg)  : Cal P w K mg base 1 "common_divisor" (spD K C_common_divisor) := by
  refine cal_d A sc_common_divisor t_common_divisor (by rfl) (fun f cdv A outer s H E hr => ?_)
  have nd := sc_common_divisor.nd
  exact (dss_cons (ds_par (da_cons (calBi call_abs oa_abs g.n_abs (da_cons (de_var 0 (pv 0)) da_nil)) (da_cons (calBi call_abs oa_abs g.n_abs (da_cons (de_var 1 (pv 1)) da_nil)) da_nil)) (fun ta h => ps_par (i := 2) (j := 3) rfl nd rfl rfl (by decide) rfl rfl h (by rfl)))
  (dss_cons (ds_while PassesOwn.never (dt_tru (de_var 3 (pv 3))) (dss_one (ds_par (da_cons (de_var 3 (pv 3)) (da_cons (de_bin op_mod os_I.op (de_var 2 (pv 2)) (de_var 3 (pv 3))) da_nil)) (fun ta h => ps_par (i := 2) (j := 3) rfl nd rfl rfl (by decide) rfl rfl h (by rfl)))))
  (dss_one (ds_ret (de_var 2 (pv 2))))))

abbrev s_is_point_in : Stmt := top 19
theorem sc_is_point_in : FnScope N_is_point_in ["value"] (defScope s_is_point_in) := ⟨rfl, rfl, rfl, by decide +kernel, rfl, by decide +kernel, by decide +kernel⟩
theorem cal_is_point_in (A : DefAt K mg "is_point_in" s_is_point_in ["value"]) (g : Gl K mg) (h_is_pair : Cal P w K mg base 1 "is_pair" (spD K C_is_pair)) (h_is_within : Cal P w K mg base 2 "is_within" (spD K C_is_within)) : Cal P w K mg base 3 "is_point_in" (spD K C_is_point_in) := by
  refine cal_d A sc_is_point_in t_is_point_in (by rfl) (fun f cdv A outer s H E hr => ?_)
  have nd := sc_is_point_in.nd
  exact (dss_one (ds_ret (de_and (calD h_is_pair (hr.mono (by decide)) cld_mono (da_cons (de_var 0 (pv 0)) da_nil)) (de_one (calBi (cr_all rfl) oa_all g.n_all (da_cons (de_frz (df_comp (own := [("number", 1)]) rfl nd (di_tup (de_var 0 (pv 0))) (blkOk_by (N := N_is_point_in) (sc := defScope s_is_point_in) (by decide +kernel)) (fun _ _ _ _ _ => (pg_name (i := 1) nd rfl (Or.inl rfl))) (tg_name (by decide)) (fun _ _ _ _ _ => dts_nil) (fun _ _ _ _ _ => (calD h_is_within (hr.mono (by decide)) cld_mono (da_cons (de_var 1 (pv 1)) (da_cons (de_neg (gv g.c_MOST_PLACE)) (da_cons (gv g.c_MOST_PLACE) da_nil))))))) da_nil))))))

abbrev s_is_step_in : Stmt := top 20
theorem sc_is_step_in : FnScope N_is_step_in ["value"] (defScope s_is_step_in) := ⟨rfl, rfl, rfl, by decide +kernel, rfl, by decide +kernel, by decide +kernel⟩
theorem cal_is_step_in (A : DefAt K mg "is_step_in" s_is_step_in ["value"]) (g : Gl K mg) (h_is_pair : Cal P w K mg base 1 "is_pair" (spD K C_is_pair)) (h_is_within : Cal P w K mg base 2 "is_within" (spD K C_is_within)) : Cal P w K mg base 3 "is_step_in" (spD K C_is_step_in) := by
  refine cal_d A sc_is_step_in t_is_step_in (by rfl) (fun f cdv A outer s H E hr => ?_)
  have nd := sc_is_step_in.nd
  exact (dss_one (ds_ret (de_and (calD h_is_pair (hr.mono (by decide)) cld_mono (da_cons (de_var 0 (pv 0)) da_nil)) (de_one (calBi (cr_all rfl) oa_all g.n_all (da_cons (de_frz (df_comp (own := [("number", 1)]) rfl nd (di_tup (de_var 0 (pv 0))) (blkOk_by (N := N_is_step_in) (sc := defScope s_is_step_in) (by decide +kernel)) (fun _ _ _ _ _ => (pg_name (i := 1) nd rfl (Or.inl rfl))) (tg_name (by decide)) (fun _ _ _ _ _ => dts_nil) (fun _ _ _ _ _ => (calD h_is_within (hr.mono (by decide)) cld_mono (da_cons (de_var 1 (pv 1)) (da_cons (de_neg (gv g.c_MOST_STEP)) (da_cons (gv g.c_MOST_STEP) da_nil))))))) da_nil))))))

abbrev s_step_in : Stmt := top 21
theorem sc_step_in : FnScope N_step_in ["a", "b"] (defScope s_step_in) := ⟨rfl, rfl, rfl, by decide +kernel, rfl, by decide +kernel, by decide +kernel⟩
theorem cal_step_in (A : DefAt K mg "step_in" s_step_in ["a", "b"]) (g : Gl K mg)  : Cal P w K mg base 1 "step_in" (spD K C_step_in) := by
  refine cal_d A sc_step_in t_step_in (by rfl) (fun f cdv A outer s H E hr => ?_)
  have nd := sc_step_in.nd
  exact (dss_one (ds_ret (de_tup (da_cons (de_bin op_sub os_I0.op (de_ix (de_var 1 (pv 1)) de_int (fun _ _ => rfl)) (de_ix (de_var 0 (pv 0)) de_int (fun _ _ => rfl))) (da_cons (de_bin op_sub os_I0.op (de_ix (de_var 1 (pv 1)) de_int (fun _ _ => rfl)) (de_ix (de_var 0 (pv 0)) de_int (fun _ _ => rfl))) da_nil)))))

abbrev s_divisor_in : Stmt := top 22
theorem sc_divisor_in : FnScope N_divisor_in ["step"] (defScope s_divisor_in) := ⟨rfl, rfl, rfl, by decide +kernel, rfl, by decide +kernel, by decide +kernel⟩
theorem cal_divisor_in (A : DefAt K mg "divisor_in" s_divisor_in ["step"]) (g : Gl K mg)  : Cal P w K mg base 1 "divisor_in" (spD K C_divisor_in) := by
  refine cal_d A sc_divisor_in t_divisor_in (by rfl) (fun f cdv A outer s H E hr => ?_)
  have nd := sc_divisor_in.nd
  exact (dss_cons (ds_par (da_cons (calBi call_abs oa_abs g.n_abs (da_cons (de_ix (de_var 0 (pv 0)) de_int (fun _ _ => rfl)) da_nil)) (da_cons (calBi call_abs oa_abs g.n_abs (da_cons (de_ix (de_var 0 (pv 0)) de_int (fun _ _ => rfl)) da_nil)) da_nil)) (fun ta h => ps_par (i := 1) (j := 2) rfl nd rfl rfl (by decide) rfl rfl h (by rfl)))
  (dss_cons (ds_while PassesOwn.never (dt_tru (de_var 2 (pv 2))) (dss_one (ds_par (da_cons (de_var 2 (pv 2)) (da_cons (de_bin op_mod os_I.op (de_var 1 (pv 1)) (de_var 2 (pv 2))) da_nil)) (fun ta h => ps_par (i := 1) (j := 2) rfl nd rfl rfl (by decide) rfl rfl h (by rfl)))))
  (dss_one (ds_ret (de_var 1 (pv 1))))))

abbrev s_makers_in : Stmt := top 23
theorem sc_makers_in : FnScope N_makers_in ["one", "other"] (defScope s_makers_in) := ⟨rfl, rfl, rfl, by decide +kernel, rfl, by decide +kernel, by decide +kernel⟩
theorem cal_makers_in (A : DefAt K mg "makers_in" s_makers_in ["one", "other"]) (g : Gl K mg)  : Cal P w K mg base 1 "makers_in" (spD K C_makers_in) := by
  refine cal_d A sc_makers_in t_makers_in (by rfl) (fun f cdv A outer s H E hr => ?_)
  have nd := sc_makers_in.nd
  exact (dss_cons (ds_asg (de_tup (da_cons (de_tup (da_cons de_int (da_cons de_int da_nil))) (da_cons (de_tup (da_cons de_int (da_cons de_int da_nil))) da_nil))) (dg_tup rfl (dgs_cons (dg_name (pg_name (i := 2) nd rfl (Or.inl rfl))) (dgs_cons (dg_name (pg_name (i := 3) nd rfl (Or.inl rfl))) dgs_nil))))
  (dss_cons (ds_par (da_cons (de_var 0 (pv 0)) (da_cons (de_var 1 (pv 1)) da_nil)) (fun ta h => ps_par (i := 4) (j := 5) rfl nd rfl rfl (by decide) rfl rfl h (by rfl)))
  (dss_cons (ds_while PassesOwn.never (dt_tru (de_var 5 (pv 5))) (dss_cons (ds_set (i := 6) nd rfl (Or.inl rfl) (de_bin op_fdivW os_I.op (de_var 4 (pv 4)) (de_var 5 (pv 5))))
  (dss_cons (ds_par (da_cons (de_var 5 (pv 5)) (da_cons (de_bin op_sub os_I0.op (de_var 4 (pv 4)) (de_bin op_mulW os_I.op (de_var 6 (pv 6)) (de_var 5 (pv 5)))) da_nil)) (fun ta h => ps_par (i := 4) (j := 5) rfl nd rfl rfl (by decide) rfl rfl h (by rfl)))
  (dss_one (ds_par (da_cons (de_var 3 (pv 3)) (da_cons (de_tup (da_cons (de_bin op_sub os_I0.op (de_ix (de_var 2 (pv 2)) de_int (fun _ _ => rfl)) (de_bin op_mulW os_I.op (de_var 6 (pv 6)) (de_ix (de_var 3 (pv 3)) de_int (fun _ _ => rfl)))) (da_cons (de_bin op_sub os_I0.op (de_ix (de_var 2 (pv 2)) de_int (fun _ _ => rfl)) (de_bin op_mulW os_I.op (de_var 6 (pv 6)) (de_ix (de_var 3 (pv 3)) de_int (fun _ _ => rfl)))) da_nil))) da_nil)) (fun ta h => ps_par (i := 2) (j := 3) rfl nd rfl rfl (by decide) rfl rfl h (by rfl)))))))
  (dss_one (ds_ret (de_if (dt_cmp op_gt os_B0.op (de_var 4 (pv 4)) de_int (nomark _)) (de_var 2 (pv 2)) (de_tup (da_cons (de_neg (de_ix (de_var 2 (pv 2)) de_int (fun _ _ => rfl))) (da_cons (de_neg (de_ix (de_var 2 (pv 2)) de_int (fun _ _ => rfl))) da_nil)))))))))

abbrev s_require_point : Stmt := top 24
theorem sc_require_point : FnScope N_require_point ["value"] (defScope s_require_point) := ⟨rfl, rfl, rfl, by decide +kernel, rfl, by decide +kernel, by decide +kernel⟩
theorem cal_require_point (A : DefAt K mg "require_point" s_require_point ["value"]) (g : Gl K mg) (h_is_point_in : Cal P w K mg base 3 "is_point_in" (spD K C_is_point_in)) : Cal P w K mg base 4 "require_point" (spD K C_require_point) := by
  refine cal_d A sc_require_point t_require_point (by rfl) (fun f cdv A outer s H E hr => ?_)
  have nd := sc_require_point.nd
  exact (dss_one (ds_if (dt_not (dt_val (calD h_is_point_in (hr.mono (by decide)) cld_mono (da_cons (de_var 0 (pv 0)) da_nil)))) (dss_one ds_never) dss_nil))

abbrev s_require_step : Stmt := top 25
theorem sc_require_step : FnScope N_require_step ["value"] (defScope s_require_step) := ⟨rfl, rfl, rfl, by decide +kernel, rfl, by decide +kernel, by decide +kernel⟩
theorem cal_require_step (A : DefAt K mg "require_step" s_require_step ["value"]) (g : Gl K mg) (h_is_step_in : Cal P w K mg base 3 "is_step_in" (spD K C_is_step_in)) : Cal P w K mg base 4 "require_step" (spD K C_require_step) := by
  refine cal_d A sc_require_step t_require_step (by rfl) (fun f cdv A outer s H E hr => ?_)
  have nd := sc_require_step.nd
  exact (dss_one (ds_if (dt_not (dt_val (calD h_is_step_in (hr.mono (by decide)) cld_mono (da_cons (de_var 0 (pv 0)) da_nil)))) (dss_one ds_never) dss_nil))

abbrev s_require_points : Stmt := top 26
theorem sc_require_points : FnScope N_require_points ["points"] (defScope s_require_points) := ⟨rfl, rfl, rfl, by decide +kernel, rfl, by decide +kernel, by decide +kernel⟩
theorem cal_require_points (A : DefAt K mg "require_points" s_require_points ["points"]) (g : Gl K mg) (h_require_point : Cal P w K mg base 4 "require_point" (spD K C_require_point)) : Cal P w K mg base 5 "require_points" (spD K C_require_points) := by
  refine cal_d A sc_require_points t_require_points (by rfl) (fun f cdv A outer s H E hr => ?_)
  have nd := sc_require_points.nd
  exact (dss_one (ds_for PassesOwn.never rfl (di_list (de_var 0 (pv 0))) (dg_name (pg_name (i := 1) nd rfl (Or.inl rfl))) (dss_one (ds_expr (calD h_require_point (hr.mono (by decide)) cld_mono (da_cons (de_var 1 (pv 1)) da_nil))))))

abbrev s_require_way : Stmt := top 27
theorem sc_require_way : FnScope N_require_way ["step"] (defScope s_require_way) := ⟨rfl, rfl, rfl, by decide +kernel, rfl, by decide +kernel, by decide +kernel⟩
theorem cal_require_way (A : DefAt K mg "require_way" s_require_way ["step"]) (g : Gl K mg) (h_require_step : Cal P w K mg base 4 "require_step" (spD K C_require_step)) : Cal P w K mg base 5 "require_way" (spD K C_require_way) := by
  refine cal_d A sc_require_way t_require_way (by rfl) (fun f cdv A outer s H E hr => ?_)
  have nd := sc_require_way.nd
  exact (dss_cons (ds_expr (calD h_require_step (hr.mono (by decide)) cld_mono (da_cons (de_var 0 (pv 0)) da_nil)))
  (dss_one (ds_if (dt_cmp (op_eqD hr.units) os_eq.op (de_var 0 (pv 0)) (de_tup (da_cons de_int (da_cons de_int da_nil))) (nomark _)) (dss_one ds_never) dss_nil)))

abbrev s_makers_of_divisor : Stmt := top 28
theorem sc_makers_of_divisor : FnScope N_makers_of_divisor ["one"] (defScope s_makers_of_divisor) := ⟨rfl, rfl, rfl, by decide +kernel, rfl, by decide +kernel, by decide +kernel⟩
theorem cal_makers_of_divisor (A : DefAt K mg "makers_of_divisor" s_makers_of_divisor ["one"]) (g : Gl K mg) (h_require_way : Cal P w K mg base 5 "require_way" (spD K C_require_way)) (h_makers_in : Cal P w K mg base 1 "makers_in" (spD K C_makers_in)) : Cal P w K mg base 6 "makers_of_divisor" (spD K C_makers_of_divisor) := by
  refine cal_d A sc_makers_of_divisor t_makers_of_divisor (by rfl) (fun f cdv A outer s H E hr => ?_)
  have nd := sc_makers_of_divisor.nd
  exact (dss_cons (ds_expr (calD h_require_way (hr.mono (by decide)) cld_mono (da_cons (de_var 0 (pv 0)) da_nil)))
  (dss_one (ds_ret (calD h_makers_in (hr.mono (by decide)) cld_mono (da_cons (de_ix (de_var 0 (pv 0)) de_int (fun _ _ => rfl)) (da_cons (de_ix (de_var 0 (pv 0)) de_int (fun _ _ => rfl)) da_nil))))))

abbrev s_do_see : Stmt := top 29
theorem sc_do_see : FnScope N_do_see ["a", "b"] (defScope s_do_see) := ⟨rfl, rfl, rfl, by decide +kernel, rfl, by decide +kernel, by decide +kernel⟩
theorem cal_do_see (A : DefAt K mg "do_see" s_do_see ["a", "b"]) (g : Gl K mg) (h_require_points : Cal P w K mg base 5 "require_points" (spD K C_require_points)) (h_divisor_in : Cal P w K mg base 1 "divisor_in" (spD K C_divisor_in)) (h_step_in : Cal P w K mg base 1 "step_in" (spD K C_step_in)) : Cal P w K mg base 6 "do_see" (spD K C_do_see) := by
  refine cal_d A sc_do_see t_do_see (by rfl) (fun f cdv A outer s H E hr => ?_)
  have nd := sc_do_see.nd
  exact (dss_cons (ds_expr (calD h_require_points (hr.mono (by decide)) cld_mono (da_cons (de_lst (da_cons (de_var 0 (pv 0)) (da_cons (de_var 1 (pv 1)) da_nil))) da_nil)))
  (dss_one (ds_ret (de_cmp (op_eqD hr.units) os_eq.op (calD h_divisor_in (hr.mono (by decide)) cld_mono (da_cons (calD h_step_in (hr.mono (by decide)) cld_mono (da_cons (de_var 0 (pv 0)) (da_cons (de_var 1 (pv 1)) da_nil))) da_nil)) de_int (nomark _)))))

abbrev s_prime_counts : Stmt := top 33
theorem sc_prime_counts : FnScope N_prime_counts ["n"] (defScope s_prime_counts) := ⟨rfl, rfl, rfl, by decide +kernel, rfl, by decide +kernel, by decide +kernel⟩
theorem cal_prime_counts (A : DefAt K mg "prime_counts" s_prime_counts ["n"]) (g : Gl K mg)  : Cal P w K mg base 1 "prime_counts" (spD K C_prime_counts) := by
  refine cal_d A sc_prime_counts t_prime_counts (by rfl) (fun f cdv A outer s H E hr => ?_)
  have nd := sc_prime_counts.nd
  exact (dss_cons (ds_parF3 df_dnew (de_var 0 (pv 0)) de_int (fun ta h => ps_par3 (i := 1) (j := 2) (l := 3) rfl nd rfl rfl rfl (by decide) (by decide) (by decide) rfl rfl rfl h (by rfl)))
  (dss_cons (ds_while PassesOwn.never (dt_cmp op_gt os_B0.op (de_var 2 (pv 2)) de_int (nomark _)) (dss_cons (ds_while PassesOwn.never (dt_cmp (op_eqD hr.units) os_eq.op (de_bin op_mod os_I.op (de_var 2 (pv 2)) (de_var 3 (pv 3))) de_int (nomark _)) (dss_cons (ds_dput 1 (hu_of hr) (pv 1) (de_bin op_addA od_add (de_dget2 1 (hu_of hr) (pv 1) (de_var 3 (pv 3)) de_int ⟨rfl, rfl, rfl, rfl⟩) de_int) (de_var 3 (pv 3)))
  (dss_one (ds_aug (i := 2) nd rfl (Or.inl rfl) (de_var 3 (pv 3)) iop_fdivW os_I.op))))
  (dss_one (ds_aug (i := 3) nd rfl (Or.inl rfl) de_int iop_add os_I0.op))))
  (dss_one (ds_ret (de_var 1 (pv 1))))))

abbrev s_phi_in : Stmt := top 34
theorem sc_phi_in : FnScope N_phi_in ["n"] (defScope s_phi_in) := ⟨rfl, rfl, rfl, by decide +kernel, rfl, by decide +kernel, by decide +kernel⟩
theorem cal_phi_in (A : DefAt K mg "phi_in" s_phi_in ["n"]) (g : Gl K mg) (h_prime_counts : Cal P w K mg base 1 "prime_counts" (spD K C_prime_counts)) : Cal P w K mg base 2 "phi_in" (spD K C_phi_in) := by
  refine cal_d A sc_phi_in t_phi_in (by rfl) (fun f cdv A outer s H E hr => ?_)
  have nd := sc_phi_in.nd
  exact (dss_cons (ds_set (i := 1) nd rfl (Or.inl rfl) (de_var 0 (pv 0)))
  (dss_cons (ds_for PassesOwn.never rfl (di_keys (calD h_prime_counts (hr.mono (by decide)) cld_mono (da_cons (de_var 0 (pv 0)) da_nil))) (dg_name (pg_name (i := 2) nd rfl (Or.inl rfl))) (dss_one (ds_set (i := 1) nd rfl (Or.inl rfl) (de_bin op_mulW os_I.op (de_bin op_fdivW os_I.op (de_var 1 (pv 1)) (de_var 2 (pv 2))) (de_bin op_sub os_I0.op (de_var 2 (pv 2)) de_int)))))
  (dss_one (ds_ret (de_var 1 (pv 1))))))

abbrev s_farey_size_in : Stmt := top 35
theorem sc_farey_size_in : FnScope N_farey_size_in ["n"] (defScope s_farey_size_in) := ⟨rfl, rfl, rfl, by decide +kernel, rfl, by decide +kernel, by decide +kernel⟩
theorem cal_farey_size_in (A : DefAt K mg "farey_size_in" s_farey_size_in ["n"]) (g : Gl K mg) (h_phi_in : Cal P w K mg base 2 "phi_in" (spD K C_phi_in)) : Cal P w K mg base 3 "farey_size_in" (spD K C_farey_size_in) := by
  refine cal_d A sc_farey_size_in t_farey_size_in (by rfl) (fun f cdv A outer s H E hr => ?_)
  have nd := sc_farey_size_in.nd
  exact (dss_one (ds_ret (de_bin op_addA od_add de_int (calBi (cr_sum rfl) oa_sum g.n_sum (da_cons (de_frz (df_comp (own := [("bottom", 1)]) rfl nd (di_rng2 (da_cons de_int (da_cons (de_bin op_addA od_add (de_var 0 (pv 0)) de_int) da_nil)) (fun ta h => pi_range2 rfl g.n_range h)) (blkOk_by (N := N_farey_size_in) (sc := defScope s_farey_size_in) (by decide +kernel)) (fun _ _ _ _ _ => (pg_name (i := 1) nd rfl (Or.inl rfl))) (tg_name (by decide)) (fun _ _ _ _ _ => dts_nil) (fun _ _ _ _ _ => (calD h_phi_in (hr.mono (by decide)) cld_mono (da_cons (de_var 1 (pv 1)) da_nil))))) da_nil)))))

abbrev s_farey_row_in : Stmt := top 36
theorem sc_farey_row_in : FnScope N_farey_row_in ["n"] (defScope s_farey_row_in) := ⟨rfl, rfl, rfl, by decide +kernel, rfl, by decide +kernel, by decide +kernel⟩
theorem cal_farey_row_in (A : DefAt K mg "farey_row_in" s_farey_row_in ["n"]) (g : Gl K mg)  : Cal P w K mg base 1 "farey_row_in" (spD K C_farey_row_in) := by
  refine cal_d A sc_farey_row_in t_farey_row_in (by rfl) (fun f cdv A outer s H E hr => ?_)
  have nd := sc_farey_row_in.nd
  exact (dss_cons (ds_setF (i := 1) nd rfl (Or.inl rfl) (df_lst (da_cons (de_tup (da_cons de_int (da_cons de_int da_nil))) (da_cons (de_tup (da_cons de_int (da_cons (de_var 0 (pv 0)) da_nil))) da_nil))))
  (dss_cons (ds_while PassesOwn.never (dt_cmp (op_neD hr.units) os_ne.op (de_ixN 1 (pv 1) (de_neg de_int) (fun _ _ => rfl)) (de_tup (da_cons de_int (da_cons de_int da_nil))) (nomark _)) (dss_cons (ds_asg (de_sliceN 1 (pv 1) (do_some (de_neg de_int)) do_no) (dg_lst rfl (dgs_cons (dg_tup rfl (dgs_cons (dg_name (pg_name (i := 2) nd rfl (Or.inl rfl))) (dgs_cons (dg_name (pg_name (i := 3) nd rfl (Or.inl rfl))) dgs_nil))) (dgs_cons (dg_tup rfl (dgs_cons (dg_name (pg_name (i := 4) nd rfl (Or.inl rfl))) (dgs_cons (dg_name (pg_name (i := 5) nd rfl (Or.inl rfl))) dgs_nil))) dgs_nil))))
  (dss_cons (ds_set (i := 6) nd rfl (Or.inl rfl) (de_bin op_fdivW os_I.op (de_bin op_addA od_add (de_var 0 (pv 0)) (de_var 3 (pv 3))) (de_var 5 (pv 5))))
  (dss_one (ds_append (i := 1) (de_tup (da_cons (de_bin op_sub os_I0.op (de_bin op_mulW os_I.op (de_var 6 (pv 6)) (de_var 4 (pv 4))) (de_var 2 (pv 2))) (da_cons (de_bin op_sub os_I0.op (de_bin op_mulW os_I.op (de_var 6 (pv 6)) (de_var 5 (pv 5))) (de_var 3 (pv 3))) da_nil))) (fun t h => ps_expr (pe_bm PySem.F.plainAttrs_list PySem.F.slot_list_append PySem.F.type_list_append mt_append (pv 1) h)))))))
  (dss_one (ds_ret (de_var 1 (pv 1))))))

abbrev s_is_lowest : Stmt := top 37
theorem sc_is_lowest : FnScope N_is_lowest ["value"] (defScope s_is_lowest) := ⟨rfl, rfl, rfl, by decide +kernel, rfl, by decide +kernel, by decide +kernel⟩
theorem cal_is_lowest (A : DefAt K mg "is_lowest" s_is_lowest ["value"]) (g : Gl K mg) (h_is_pair : Cal P w K mg base 1 "is_pair" (spD K C_is_pair)) (h_is_near : Cal P w K mg base 2 "is_near" (spD K C_is_near)) (h_common_divisor : Cal P w K mg base 1 "common_divisor" (spD K C_common_divisor)) : Cal P w K mg base 3 "is_lowest" (spD K C_is_lowest) := by
  refine cal_d A sc_is_lowest t_is_lowest (by rfl) (fun f cdv A outer s H E hr => ?_)
  have nd := sc_is_lowest.nd
  exact (dss_cons (ds_if (DW.te (dw_or (dt_not (dt_val (calD h_is_pair (hr.mono (by decide)) cld_mono (da_cons (de_var 0 (pv 0)) da_nil)))) (dw_or1 (dt_not (dt_val (calBi (cr_all rfl) oa_all g.n_all (da_cons (de_frz (df_comp (own := [("number", 1)]) rfl nd (di_tup (de_var 0 (pv 0))) (blkOk_by (N := N_is_lowest) (sc := defScope s_is_lowest) (by decide +kernel)) (fun _ _ _ _ _ => (pg_name (i := 1) nd rfl (Or.inl rfl))) (tg_name (by decide)) (fun _ _ _ _ _ => dts_nil) (fun _ _ _ _ _ => (calD h_is_near (hr.mono (by decide)) cld_mono (da_cons (de_var 1 (pv 1)) da_nil))))) da_nil))))))) (dss_one (ds_ret de_bl)) dss_nil)
  (dss_one (ds_ret (de_and (de_cmp op_gt os_B0.op (de_ix (de_var 0 (pv 0)) de_int (fun _ _ => rfl)) de_int (nomark _)) (de_one (de_cmp (op_eqD hr.units) os_eq.op (calD h_common_divisor (hr.mono (by decide)) cld_mono (da_cons (de_ix (de_var 0 (pv 0)) de_int (fun _ _ => rfl)) (da_cons (de_ix (de_var 0 (pv 0)) de_int (fun _ _ => rfl)) da_nil))) de_int (nomark _)))))))

abbrev s_is_in_row : Stmt := top 38
theorem sc_is_in_row : FnScope N_is_in_row ["n", "value"] (defScope s_is_in_row) := ⟨rfl, rfl, rfl, by decide +kernel, rfl, by decide +kernel, by decide +kernel⟩
theorem cal_is_in_row (A : DefAt K mg "is_in_row" s_is_in_row ["n", "value"]) (g : Gl K mg) (h_is_lowest : Cal P w K mg base 3 "is_lowest" (spD K C_is_lowest)) : Cal P w K mg base 4 "is_in_row" (spD K C_is_in_row) := by
  refine cal_d A sc_is_in_row t_is_in_row (by rfl) (fun f cdv A outer s H E hr => ?_)
  have nd := sc_is_in_row.nd
  exact (dss_one (ds_ret (de_and (calD h_is_lowest (hr.mono (by decide)) cld_mono (da_cons (de_var 1 (pv 1)) da_nil)) (de_one (de_chain3 op_le op_le op_le os_B0 os_B0 os_B0.op de_int (de_ix (de_var 1 (pv 1)) de_int (fun _ _ => rfl)) (de_ix (de_var 1 (pv 1)) de_int (fun _ _ => rfl)) (de_var 0 (pv 0)))))))

abbrev s_ahead_in_row : Stmt := top 39
theorem sc_ahead_in_row : FnScope N_ahead_in_row ["n", "value"] (defScope s_ahead_in_row) := ⟨rfl, rfl, rfl, by decide +kernel, rfl, by decide +kernel, by decide +kernel⟩
theorem cal_ahead_in_row (A : DefAt K mg "ahead_in_row" s_ahead_in_row ["n", "value"]) (g : Gl K mg)  : Cal P w K mg base 1 "ahead_in_row" (spD K C_ahead_in_row) := by
  refine cal_d A sc_ahead_in_row t_ahead_in_row (by rfl) (fun f cdv A outer s H E hr => ?_)
  have nd := sc_ahead_in_row.nd
  exact (dss_cons (ds_asg (de_var 1 (pv 1)) (dg_tup rfl (dgs_cons (dg_name (pg_name (i := 2) nd rfl (Or.inr rfl))) (dgs_cons (dg_name (pg_name (i := 3) nd rfl (Or.inr rfl))) dgs_nil))))
  (dss_cons (ds_setLc s H (own := [("b", 5)]) (i := 4) rfl nd rfl rfl rfl (di_rng2 (da_cons (calBi (call_max2 rfl) oa_max g.n_max (da_cons de_int (da_cons (de_bin op_addA od_add (de_bin op_sub os_I0.op (de_var 0 (pv 0)) (de_var 3 (pv 3))) de_int) da_nil))) (da_cons (de_bin op_addA od_add (de_var 0 (pv 0)) de_int) da_nil)) (fun ta h => pi_range2 rfl g.n_range h)) (blkOk_by (N := N_ahead_in_row) (sc := defScope s_ahead_in_row) (by decide +kernel)) (fun _ _ _ _ _ => (pg_name (i := 5) nd rfl (Or.inl rfl))) (tg_name (by decide)) (fun _ _ _ _ _ => (dts_one (dt_cmp (op_eqD hr.units) os_eq.op (de_bin op_mod os_I.op (de_bin op_sub os_I0.op (de_bin op_mulW os_I.op (de_var 2 (pv 2)) (de_var 5 (pv 5))) de_int) (de_var 3 (pv 3))) de_int (nomark _)))) (fun _ _ _ _ _ => (de_var 5 (pv 5))))
  (dss_one (ds_ret (de_tup (da_cons (de_bin op_fdivW os_I.op (de_bin op_sub os_I0.op (de_bin op_mulW os_I.op (de_var 2 (pv 2)) (de_ix (de_var 4 (pv 4)) de_int (fun _ _ => rfl))) de_int) (de_var 3 (pv 3))) (da_cons (de_ix (de_var 4 (pv 4)) de_int (fun _ _ => rfl)) da_nil)))))))

abbrev s_neighbours_in_row : Stmt := top 40
theorem sc_neighbours_in_row : FnScope N_neighbours_in_row ["n", "value"] (defScope s_neighbours_in_row) := ⟨rfl, rfl, rfl, by decide +kernel, rfl, by decide +kernel, by decide +kernel⟩
theorem cal_neighbours_in_row (A : DefAt K mg "neighbours_in_row" s_neighbours_in_row ["n", "value"]) (g : Gl K mg) (h_ahead_in_row : Cal P w K mg base 1 "ahead_in_row" (spD K C_ahead_in_row)) : Cal P w K mg base 2 "neighbours_in_row" (spD K C_neighbours_in_row) := by
  refine cal_d A sc_neighbours_in_row t_neighbours_in_row (by rfl) (fun f cdv A outer s H E hr => ?_)
  have nd := sc_neighbours_in_row.nd
  exact (dss_cons (ds_asg (de_var 1 (pv 1)) (dg_tup rfl (dgs_cons (dg_name (pg_name (i := 2) nd rfl (Or.inl rfl))) (dgs_cons (dg_name (pg_name (i := 3) nd rfl (Or.inl rfl))) dgs_nil))))
  (dss_cons (ds_set (i := 4) nd rfl (Or.inl rfl) (de_if (dt_cmp (op_eqD hr.units) os_eq.op (de_var 2 (pv 2)) de_int (nomark _)) de_non (calD h_ahead_in_row (hr.mono (by decide)) cld_mono (da_cons (de_var 0 (pv 0)) (da_cons (de_var 1 (pv 1)) da_nil)))))
  (dss_cons (ds_if (dt_cmp (op_eqD hr.units) os_eq.op (de_var 2 (pv 2)) (de_var 3 (pv 3)) (nomark _)) (dss_one (ds_ret (de_tup (da_cons (de_var 4 (pv 4)) (da_cons de_non da_nil))))) dss_nil)
  (dss_cons (ds_set (i := 5) nd rfl (Or.inl rfl) (calD h_ahead_in_row (hr.mono (by decide)) cld_mono (da_cons (de_var 0 (pv 0)) (da_cons (de_tup (da_cons (de_bin op_sub os_I0.op (de_var 3 (pv 3)) (de_var 2 (pv 2))) (da_cons (de_var 3 (pv 3)) da_nil))) da_nil))))
  (dss_one (ds_ret (de_tup (da_cons (de_var 4 (pv 4)) (da_cons (de_tup (da_cons (de_bin op_sub os_I0.op (de_ix (de_var 5 (pv 5)) de_int (fun _ _ => rfl)) (de_ix (de_var 5 (pv 5)) de_int (fun _ _ => rfl))) (da_cons (de_ix (de_var 5 (pv 5)) de_int (fun _ _ => rfl)) da_nil))) da_nil)))))))))

abbrev s_simplest_in : Stmt := top 41
theorem sc_simplest_in : FnScope N_simplest_in ["one", "other"] (defScope s_simplest_in) := ⟨rfl, rfl, rfl, by decide +kernel, rfl, by decide +kernel, by decide +kernel⟩
theorem cal_simplest_in (A : DefAt K mg "simplest_in" s_simplest_in ["one", "other"]) (g : Gl K mg)  : Cal P w K mg base 1 "simplest_in" (spD K C_simplest_in) := by
  refine cal_d A sc_simplest_in t_simplest_in (by rfl) (fun f cdv A outer s H E hr => ?_)
  have nd := sc_simplest_in.nd
  exact (dss_cons (ds_asg (de_tup (da_cons (de_var 0 (pv 0)) (da_cons (de_var 1 (pv 1)) da_nil))) (dg_tup rfl (dgs_cons (dg_tup rfl (dgs_cons (dg_name (pg_name (i := 2) nd rfl (Or.inl rfl))) (dgs_cons (dg_name (pg_name (i := 3) nd rfl (Or.inl rfl))) dgs_nil))) (dgs_cons (dg_tup rfl (dgs_cons (dg_name (pg_name (i := 4) nd rfl (Or.inl rfl))) (dgs_cons (dg_name (pg_name (i := 5) nd rfl (Or.inl rfl))) dgs_nil))) dgs_nil))))
  (dss_cons (ds_parF (df_lst da_nil) de_non (fun ta h => ps_par (i := 6) (j := 7) rfl nd rfl rfl (by decide) rfl rfl h (by rfl)))
  (dss_cons (ds_while PassesOwn.never (dt_cmp op_isN os_isN.op (de_var 7 (pv 7)) de_non (nomark _)) (dss_cons (ds_set (i := 8) nd rfl (Or.inl rfl) (de_bin op_fdivW os_I.op (de_var 2 (pv 2)) (de_var 3 (pv 3))))
  (dss_cons (ds_par (da_cons (de_bin op_sub os_I0.op (de_var 2 (pv 2)) (de_bin op_mulW os_I.op (de_var 8 (pv 8)) (de_var 3 (pv 3)))) (da_cons (de_bin op_sub os_I0.op (de_var 4 (pv 4)) (de_bin op_mulW os_I.op (de_var 8 (pv 8)) (de_var 5 (pv 5)))) da_nil)) (fun ta h => ps_par (i := 9) (j := 10) rfl nd rfl rfl (by decide) rfl rfl h (by rfl)))
  (dss_one (ds_if (dt_cmp op_lt os_B0.op (de_bin op_mulW os_I.op (de_bin op_addA od_add (de_var 8 (pv 8)) de_int) (de_var 5 (pv 5))) (de_var 4 (pv 4)) (nomark _)) (dss_one (ds_set (i := 7) nd rfl (Or.inl rfl) (de_tup (da_cons (de_bin op_addA od_add (de_var 8 (pv 8)) de_int) (da_cons de_int da_nil))))) (dss_one (ds_if (dt_cmp (op_eqD hr.units) os_eq.op (de_var 9 (pv 9)) de_int (nomark _)) (dss_cons (ds_set (i := 11) nd rfl (Or.inl rfl) (de_bin op_addA od_add (de_bin op_fdivW os_I.op (de_var 5 (pv 5)) (de_var 10 (pv 10))) de_int))
  (dss_one (ds_set (i := 7) nd rfl (Or.inl rfl) (de_tup (da_cons (de_bin op_addA od_add (de_bin op_mulW os_I.op (de_var 8 (pv 8)) (de_var 11 (pv 11))) de_int) (da_cons (de_var 11 (pv 11)) da_nil)))))) (dss_cons (ds_append (i := 6) (de_var 8 (pv 8)) (fun t h => ps_expr (pe_bm PySem.F.plainAttrs_list PySem.F.slot_list_append PySem.F.type_list_append mt_append (pv 6) h)))
  (dss_one (ds_asg (de_tup (da_cons (de_var 5 (pv 5)) (da_cons (de_var 10 (pv 10)) (da_cons (de_var 3 (pv 3)) (da_cons (de_var 9 (pv 9)) da_nil))))) (dg_tup rfl (dgs_cons (dg_name (pg_name (i := 2) nd rfl (Or.inl rfl))) (dgs_cons (dg_name (pg_name (i := 3) nd rfl (Or.inl rfl))) (dgs_cons (dg_name (pg_name (i := 4) nd rfl (Or.inl rfl))) (dgs_cons (dg_name (pg_name (i := 5) nd rfl (Or.inl rfl))) dgs_nil)))))))))))))))
  (dss_cons (ds_for PassesOwn.never rfl (di_list (de_revA (de_var 6 (pv 6)))) (dg_name (pg_name (i := 8) nd rfl (Or.inl rfl))) (dss_one (ds_set (i := 7) nd rfl (Or.inl rfl) (de_tup (da_cons (de_bin op_addA od_add (de_bin op_mulW os_I.op (de_var 8 (pv 8)) (de_ix (de_var 7 (pv 7)) de_int (fun _ _ => rfl))) (de_ix (de_var 7 (pv 7)) de_int (fun _ _ => rfl))) (da_cons (de_ix (de_var 7 (pv 7)) de_int (fun _ _ => rfl)) da_nil))))))
  (dss_one (ds_ret (de_var 7 (pv 7))))))))

abbrev s_require_count : Stmt := top 42
theorem sc_require_count : FnScope N_require_count ["n"] (defScope s_require_count) := ⟨rfl, rfl, rfl, by decide +kernel, rfl, by decide +kernel, by decide +kernel⟩
theorem cal_require_count (A : DefAt K mg "require_count" s_require_count ["n"]) (g : Gl K mg) (h_require_number : Cal P w K mg base 3 "require_number" (spD K C_require_number)) : Cal P w K mg base 4 "require_count" (spD K C_require_count) := by
  refine cal_d A sc_require_count t_require_count (by rfl) (fun f cdv A outer s H E hr => ?_)
  have nd := sc_require_count.nd
  exact (dss_one (ds_expr (calD h_require_number (hr.mono (by decide)) cld_mono (da_cons (de_var 0 (pv 0)) (da_cons de_int (da_cons (gv g.c_MOST_NUMBER) da_nil))))))

abbrev s_phi : Stmt := top 43
theorem sc_phi : FnScope N_phi ["n"] (defScope s_phi) := ⟨rfl, rfl, rfl, by decide +kernel, rfl, by decide +kernel, by decide +kernel⟩
theorem cal_phi (A : DefAt K mg "phi" s_phi ["n"]) (g : Gl K mg) (h_require_count : Cal P w K mg base 4 "require_count" (spD K C_require_count)) (h_phi_in : Cal P w K mg base 2 "phi_in" (spD K C_phi_in)) : Cal P w K mg base 5 "phi" (spD K C_phi) := by
  refine cal_d A sc_phi t_phi (by rfl) (fun f cdv A outer s H E hr => ?_)
  have nd := sc_phi.nd
  exact (dss_cons (ds_expr (calD h_require_count (hr.mono (by decide)) cld_mono (da_cons (de_var 0 (pv 0)) da_nil)))
  (dss_one (ds_ret (calD h_phi_in (hr.mono (by decide)) cld_mono (da_cons (de_var 0 (pv 0)) da_nil)))))

abbrev s_farey_row : Stmt := top 44
theorem sc_farey_row : FnScope N_farey_row ["n"] (defScope s_farey_row) := ⟨rfl, rfl, rfl, by decide +kernel, rfl, by decide +kernel, by decide +kernel⟩
theorem cal_farey_row (A : DefAt K mg "farey_row" s_farey_row ["n"]) (g : Gl K mg) (h_require_count : Cal P w K mg base 4 "require_count" (spD K C_require_count)) (h_farey_size_in : Cal P w K mg base 3 "farey_size_in" (spD K C_farey_size_in)) (h_farey_row_in : Cal P w K mg base 1 "farey_row_in" (spD K C_farey_row_in)) : Cal P w K mg base 5 "farey_row" (spD K C_farey_row) := by
  refine cal_d A sc_farey_row t_farey_row (by rfl) (fun f cdv A outer s H E hr => ?_)
  have nd := sc_farey_row.nd
  exact (dss_cons (ds_expr (calD h_require_count (hr.mono (by decide)) cld_mono (da_cons (de_var 0 (pv 0)) da_nil)))
  (dss_cons (ds_if (dt_cmp op_gt os_B0.op (calD h_farey_size_in (hr.mono (by decide)) cld_mono (da_cons (de_var 0 (pv 0)) da_nil)) (gv g.c_MOST_LISTED) (nomark _)) (dss_one ds_never) dss_nil)
  (dss_one (ds_ret (calTy call_tuple_of oa_tuple g.n_tuple (da_cons (calD h_farey_row_in (hr.mono (by decide)) cld_mono (da_cons (de_var 0 (pv 0)) da_nil)) da_nil))))))

abbrev s_farey_size : Stmt := top 45
theorem sc_farey_size : FnScope N_farey_size ["n"] (defScope s_farey_size) := ⟨rfl, rfl, rfl, by decide +kernel, rfl, by decide +kernel, by decide +kernel⟩
theorem cal_farey_size (A : DefAt K mg "farey_size" s_farey_size ["n"]) (g : Gl K mg) (h_require_count : Cal P w K mg base 4 "require_count" (spD K C_require_count)) (h_farey_size_in : Cal P w K mg base 3 "farey_size_in" (spD K C_farey_size_in)) : Cal P w K mg base 5 "farey_size" (spD K C_farey_size) := by
  refine cal_d A sc_farey_size t_farey_size (by rfl) (fun f cdv A outer s H E hr => ?_)
  have nd := sc_farey_size.nd
  exact (dss_cons (ds_expr (calD h_require_count (hr.mono (by decide)) cld_mono (da_cons (de_var 0 (pv 0)) da_nil)))
  (dss_one (ds_ret (calD h_farey_size_in (hr.mono (by decide)) cld_mono (da_cons (de_var 0 (pv 0)) da_nil)))))

abbrev s_farey_neighbours : Stmt := top 46
theorem sc_farey_neighbours : FnScope N_farey_neighbours ["n", "fraction"] (defScope s_farey_neighbours) := ⟨rfl, rfl, rfl, by decide +kernel, rfl, by decide +kernel, by decide +kernel⟩
theorem cal_farey_neighbours (A : DefAt K mg "farey_neighbours" s_farey_neighbours ["n", "fraction"]) (g : Gl K mg) (h_require_count : Cal P w K mg base 4 "require_count" (spD K C_require_count)) (h_is_in_row : Cal P w K mg base 4 "is_in_row" (spD K C_is_in_row)) (h_neighbours_in_row : Cal P w K mg base 2 "neighbours_in_row" (spD K C_neighbours_in_row)) : Cal P w K mg base 5 "farey_neighbours" (spD K C_farey_neighbours) := by
  refine cal_d A sc_farey_neighbours t_farey_neighbours (by rfl) (fun f cdv A outer s H E hr => ?_)
  have nd := sc_farey_neighbours.nd
  exact (dss_cons (ds_expr (calD h_require_count (hr.mono (by decide)) cld_mono (da_cons (de_var 0 (pv 0)) da_nil)))
  (dss_cons (ds_if (dt_not (dt_val (calD h_is_in_row (hr.mono (by decide)) cld_mono (da_cons (de_var 0 (pv 0)) (da_cons (de_var 1 (pv 1)) da_nil))))) (dss_one ds_never) dss_nil)
  (dss_one (ds_ret (calD h_neighbours_in_row (hr.mono (by decide)) cld_mono (da_cons (de_var 0 (pv 0)) (da_cons (de_var 1 (pv 1)) da_nil)))))))

abbrev s_simplest_between : Stmt := top 47
theorem sc_simplest_between : FnScope N_simplest_between ["one", "other"] (defScope s_simplest_between) := ⟨rfl, rfl, rfl, by decide +kernel, rfl, by decide +kernel, by decide +kernel⟩
theorem cal_simplest_between (A : DefAt K mg "simplest_between" s_simplest_between ["one", "other"]) (g : Gl K mg) (h_is_lowest : Cal P w K mg base 3 "is_lowest" (spD K C_is_lowest)) (h_simplest_in : Cal P w K mg base 1 "simplest_in" (spD K C_simplest_in)) : Cal P w K mg base 4 "simplest_between" (spD K C_simplest_between) := by
  refine cal_d A sc_simplest_between t_simplest_between (by rfl) (fun f cdv A outer s H E hr => ?_)
  have nd := sc_simplest_between.nd
  exact (dss_cons (ds_if (DW.te (dw_or (dt_not (dt_val (calD h_is_lowest (hr.mono (by decide)) cld_mono (da_cons (de_var 0 (pv 0)) da_nil)))) (dw_or (dt_not (dt_val (calD h_is_lowest (hr.mono (by decide)) cld_mono (da_cons (de_var 1 (pv 1)) da_nil)))) (dw_or1 (dt_cmp op_ge os_B0.op (de_bin op_mulW os_I.op (de_ix (de_var 0 (pv 0)) de_int (fun _ _ => rfl)) (de_ix (de_var 1 (pv 1)) de_int (fun _ _ => rfl))) (de_bin op_mulW os_I.op (de_ix (de_var 1 (pv 1)) de_int (fun _ _ => rfl)) (de_ix (de_var 0 (pv 0)) de_int (fun _ _ => rfl))) (nomark _)))))) (dss_one ds_never) dss_nil)
  (dss_one (ds_ret (calD h_simplest_in (hr.mono (by decide)) cld_mono (da_cons (de_var 0 (pv 0)) (da_cons (de_var 1 (pv 1)) da_nil))))))

abbrev s__law_dice : Stmt := top 49
theorem sc__law_dice : FnScope N__law_dice ["script", "spot"] (defScope s__law_dice) := ⟨rfl, rfl, rfl, by decide +kernel, rfl, by decide +kernel, by decide +kernel⟩
theorem cal__law_dice (A : DefAt K mg "_law_dice" s__law_dice ["script", "spot"]) (g : Gl K mg)  : Cal P w K mg base 1 "_law_dice" (spF K C__law_dice) := by
  refine cal_f A sc__law_dice t__law_dice (by rfl) (fun f cdv A outer s H E hr => ?_)
  have nd := sc__law_dice.nd
  exact (dss_cons (ds_set (i := 2) nd rfl (Or.inl rfl) (de_if (dt_cmp op_lt os_B0.op (de_var 1 (pv 1)) (calBi call_len_seq oa_len g.n_len (da_cons (de_var 0 (pv 0)) da_nil)) (nomark _)) (calTy call_int1 oa_int g.n_int (da_cons (de_ix (de_var 0 (pv 0)) (de_var 1 (pv 1)) (fun _ _ => rfl)) da_nil)) (de_bin op_addA od_add (de_bin op_mulW os_I.op de_int (de_var 1 (pv 1))) de_int)))
  (dss_cons (ds_set (i := 3) nd rfl (Or.inl rfl) (de_bin op_mod os_I.op (calBi (call_max2 rfl) oa_max g.n_max (da_cons de_int (da_cons (de_bin op_sub os_I0.op (calBi call_abs oa_abs g.n_abs (da_cons (de_var 2 (pv 2)) da_nil)) (de_bin op_pow os_I.op de_int de_int)) da_nil))) (de_bin op_mulW os_I.op (de_bin op_pow os_I.op de_int de_int) (de_bin op_pow os_I.op de_int de_int))))
  (dss_one (ds_retF (df_lst (da_cons (de_var 3 (pv 3)) (da_cons (de_bin op_mod os_I.op (de_bin op_addA od_add (de_bin op_addA od_add (de_bin op_mod os_I.op (calBi call_abs oa_abs g.n_abs (da_cons (de_var 2 (pv 2)) da_nil)) de_int) (de_bin op_mulW os_I.op de_int (de_var 1 (pv 1)))) (de_bin op_mulW os_I.op de_int (calTy call_int1 oa_int g.n_int (da_cons (de_cmp op_lt os_B0.op (de_var 2 (pv 2)) de_int (nomark _)) da_nil)))) de_int) da_nil)))))))

abbrev s__law_roll : Stmt := top 50
theorem sc__law_roll : FnScope N__law_roll ["dice", "total"] (defScope s__law_roll) := ⟨rfl, rfl, rfl, by decide +kernel, rfl, by decide +kernel, by decide +kernel⟩
theorem cal__law_roll (A : DefAt K mg "_law_roll" s__law_roll ["dice", "total"]) (g : Gl K mg)  : Cal P w K mg base 1 "_law_roll" (spB K C__law_roll) := by
  refine cal_b A sc__law_roll t__law_roll (by rfl) (fun f cdv A outer s H E hr => ?_)
  have nd := sc__law_roll.nd
  exact (dss_cons (ds_if (dt_cmp op_gt os_B0.op (de_ixN 0 (pv 0) de_int (fun _ _ => rfl)) de_int (nomark _)) (dss_cons (ds_set (i := 2) nd rfl (Or.inl rfl) (calTy call_int1 oa_int g.n_int (da_cons (de_bin op_mod os_I.op (de_ixN 0 (pv 0) de_int (fun _ _ => rfl)) (de_var 1 (pv 1))) da_nil)))
  (dss_cons (ds_setIx (i := 0) (de_bin op_fdivW os_I.op (de_ixN 0 (pv 0) de_int (fun _ _ => rfl)) (de_var 1 (pv 1))) de_int (fun te tk h1 h2 => ps_asg h1 (pg_sub (pv 0) h2 set_list)))
  (dss_one (ds_ret (de_var 2 (pv 2)))))) dss_nil)
  (dss_cons (ds_setIx (i := 0) (de_bin op_mod os_I.op (de_bin op_addA od_add (de_bin op_mulW os_I.op (de_ixN 0 (pv 0) de_int (fun _ _ => rfl)) de_int) de_int) de_int) de_int (fun te tk h1 h2 => ps_asg h1 (pg_sub (pv 0) h2 set_list)))
  (dss_one (ds_ret (de_bin op_mod os_I.op (calTy call_int1 oa_int g.n_int (da_cons (de_bin op_fdivW os_I.op (de_ixN 0 (pv 0) de_int (fun _ _ => rfl)) de_int) da_nil)) (de_var 1 (pv 1)))))))

abbrev s__law_one_of : Stmt := top 51
theorem sc__law_one_of : FnScope N__law_one_of ["dice", "items"] (defScope s__law_one_of) := ⟨rfl, rfl, rfl, by decide +kernel, rfl, by decide +kernel, by decide +kernel⟩
theorem cal__law_one_of (A : DefAt K mg "_law_one_of" s__law_one_of ["dice", "items"]) (g : Gl K mg) (h__law_roll : Cal P w K mg base 1 "_law_roll" (spB K C__law_roll)) : Cal P w K mg base 2 "_law_one_of" (spB K C__law_one_of) := by
  refine cal_b A sc__law_one_of t__law_one_of (by rfl) (fun f cdv A outer s H E hr => ?_)
  have nd := sc__law_one_of.nd
  exact (dss_one (ds_ret (de_ix (de_var 1 (pv 1)) (calL 0 h__law_roll (hr.mono (by decide)) clb_mono (pv 0) (da_cons (calBi call_len_seq oa_len g.n_len (da_cons (de_var 1 (pv 1)) da_nil)) da_nil)) (fun _ _ => rfl))))

abbrev s__law_common : Stmt := top 52
theorem sc__law_common : FnScope N__law_common ["one", "far"] (defScope s__law_common) := ⟨rfl, rfl, rfl, by decide +kernel, rfl, by decide +kernel, by decide +kernel⟩
theorem cal__law_common (A : DefAt K mg "_law_common" s__law_common ["one", "far"]) (g : Gl K mg)  : Cal P w K mg base 1 "_law_common" (spD K C__law_common) := by
  refine cal_d A sc__law_common t__law_common (by rfl) (fun f cdv A outer s H E hr => ?_)
  have nd := sc__law_common.nd
  exact (dss_cons (ds_par (da_cons (calBi call_abs oa_abs g.n_abs (da_cons (de_var 0 (pv 0)) da_nil)) (da_cons (calBi call_abs oa_abs g.n_abs (da_cons (de_var 1 (pv 1)) da_nil)) da_nil)) (fun ta h => ps_par (i := 0) (j := 1) rfl nd rfl rfl (by decide) rfl rfl h (by rfl)))
  (dss_cons (ds_while PassesOwn.never (dt_cmp (op_neD hr.units) os_ne.op (de_var 1 (pv 1)) de_int (nomark _)) (dss_one (ds_par (da_cons (de_var 1 (pv 1)) (da_cons (de_bin op_mod os_I.op (de_var 0 (pv 0)) (de_var 1 (pv 1))) da_nil)) (fun ta h => ps_par (i := 0) (j := 1) rfl nd rfl rfl (by decide) rfl rfl h (by rfl)))))
  (dss_one (ds_ret (de_var 0 (pv 0))))))

abbrev s__law_phi : Stmt := top 53
theorem sc__law_phi : FnScope N__law_phi ["n"] (defScope s__law_phi) := ⟨rfl, rfl, rfl, by decide +kernel, rfl, by decide +kernel, by decide +kernel⟩
theorem cal__law_phi (A : DefAt K mg "_law_phi" s__law_phi ["n"]) (g : Gl K mg)  : Cal P w K mg base 1 "_law_phi" (spD K C__law_phi) := by
  refine cal_d A sc__law_phi t__law_phi (by rfl) (fun f cdv A outer s H E hr => ?_)
  have nd := sc__law_phi.nd
  exact (dss_cons (ds_par3 (da_cons (de_var 0 (pv 0)) (da_cons (de_var 0 (pv 0)) (da_cons de_int da_nil))) (fun ta h => ps_par3 (i := 1) (j := 2) (l := 3) rfl nd rfl rfl rfl (by decide) (by decide) (by decide) rfl rfl rfl h (by rfl)))
  (dss_cons (ds_while PassesOwn.never (dt_cmp op_le os_B0.op (de_bin op_mulW os_I.op (de_var 3 (pv 3)) (de_var 3 (pv 3))) (de_var 2 (pv 2)) (nomark _)) (dss_cons (ds_if (dt_cmp (op_eqD hr.units) os_eq.op (de_bin op_mod os_I.op (de_var 2 (pv 2)) (de_var 3 (pv 3))) de_int (nomark _)) (dss_cons (ds_set (i := 1) nd rfl (Or.inl rfl) (de_bin op_mulW os_I.op (de_bin op_fdivW os_I.op (de_var 1 (pv 1)) (de_var 3 (pv 3))) (de_bin op_sub os_I0.op (de_var 3 (pv 3)) de_int)))
  (dss_one (ds_while PassesOwn.never (dt_cmp (op_eqD hr.units) os_eq.op (de_bin op_mod os_I.op (de_var 2 (pv 2)) (de_var 3 (pv 3))) de_int (nomark _)) (dss_one (ds_set (i := 2) nd rfl (Or.inl rfl) (de_bin op_fdivW os_I.op (de_var 2 (pv 2)) (de_var 3 (pv 3)))))))) dss_nil)
  (dss_one (ds_set (i := 3) nd rfl (Or.inl rfl) (de_bin op_addA od_add (de_var 3 (pv 3)) de_int)))))
  (dss_one (ds_ret (de_if (dt_cmp op_gt os_B0.op (de_var 2 (pv 2)) de_int (nomark _)) (de_bin op_mulW os_I.op (de_bin op_fdivW os_I.op (de_var 1 (pv 1)) (de_var 2 (pv 2))) (de_bin op_sub os_I0.op (de_var 2 (pv 2)) de_int)) (de_var 1 (pv 1)))))))

abbrev s__law_row_right : Stmt := top 54
theorem sc__law_row_right : FnScope N__law_row_right ["n"] (defScope s__law_row_right) := ⟨rfl, rfl, rfl, by decide +kernel, rfl, by decide +kernel, by decide +kernel⟩
theorem cal__law_row_right (A : DefAt K mg "_law_row_right" s__law_row_right ["n"]) (g : Gl K mg) (h__law_phi : Cal P w K mg base 1 "_law_phi" (spD K C__law_phi)) (h_farey_row : Cal P w K mg base 5 "farey_row" (spD K C_farey_row)) (h_farey_size : Cal P w K mg base 5 "farey_size" (spD K C_farey_size)) (h__law_common : Cal P w K mg base 1 "_law_common" (spD K C__law_common)) (h_phi : Cal P w K mg base 5 "phi" (spD K C_phi)) : Cal P w K mg base 6 "_law_row_right" (spD K C__law_row_right) := by
  refine cal_d A sc__law_row_right t__law_row_right (by rfl) (fun f cdv A outer s H E hr => ?_)
  have nd := sc__law_row_right.nd
  exact (dss_cons (ds_par (da_cons (calD h_farey_row (hr.mono (by decide)) cld_mono (da_cons (de_var 0 (pv 0)) da_nil)) (da_cons (de_bin op_addA od_add de_int (calBi (cr_sum rfl) oa_sum g.n_sum (da_cons (de_frz (df_comp (own := [("k", 3)]) rfl nd (di_rng2 (da_cons de_int (da_cons (de_bin op_addA od_add (de_var 0 (pv 0)) de_int) da_nil)) (fun ta h => pi_range2 rfl g.n_range h)) (blkOk_by (N := N__law_row_right) (sc := defScope s__law_row_right) (by decide +kernel)) (fun _ _ _ _ _ => (pg_name (i := 3) nd rfl (Or.inl rfl))) (tg_name (by decide)) (fun _ _ _ _ _ => dts_nil) (fun _ _ _ _ _ => (calD h__law_phi (hr.mono (by decide)) cld_mono (da_cons (de_var 3 (pv 3)) da_nil))))) da_nil))) da_nil)) (fun ta h => ps_par (i := 1) (j := 2) rfl nd rfl rfl (by decide) rfl rfl h (by rfl)))
  (dss_cons (ds_if (DW.te (dw_or (dt_cmp (op_neD hr.units) os_ne.op (calBi call_len_seq oa_len g.n_len (da_cons (de_var 1 (pv 1)) da_nil)) (de_var 2 (pv 2)) (nomark _)) (dw_or (dt_cmp (op_neD hr.units) os_ne.op (calD h_farey_size (hr.mono (by decide)) cld_mono (da_cons (de_var 0 (pv 0)) da_nil)) (de_var 2 (pv 2)) (nomark _)) (dw_or (dt_cmp (op_neD hr.units) os_ne.op (de_ix (de_var 1 (pv 1)) de_int (fun _ _ => rfl)) (de_tup (da_cons de_int (da_cons de_int da_nil))) (nomark _)) (dw_or1 (dt_cmp (op_neD hr.units) os_ne.op (de_ix (de_var 1 (pv 1)) (de_neg de_int) (fun _ _ => rfl)) (de_tup (da_cons de_int (da_cons de_int da_nil))) (nomark _))))))) (dss_one (ds_ret de_bl)) dss_nil)
  (dss_cons (ds_asg (de_tup (da_cons de_int (da_cons de_int da_nil))) (dg_tup rfl (dgs_cons (dg_name (pg_name (i := 4) nd rfl (Or.inl rfl))) (dgs_cons (dg_name (pg_name (i := 5) nd rfl (Or.inl rfl))) dgs_nil))))
  (dss_cons (ds_for PassesOwn.never rfl (di_zip (da_cons (de_var 1 (pv 1)) (da_cons (de_slice (de_var 1 (pv 1)) (do_some de_int) do_no) da_nil)) (fun ta h => RZ.pi_zipA rfl g.n_zip h)) (dg_tup rfl (dgs_cons (dg_tup rfl (dgs_cons (dg_name (pg_name (i := 6) nd rfl (Or.inl rfl))) (dgs_cons (dg_name (pg_name (i := 7) nd rfl (Or.inl rfl))) dgs_nil))) (dgs_cons (dg_tup rfl (dgs_cons (dg_name (pg_name (i := 8) nd rfl (Or.inl rfl))) (dgs_cons (dg_name (pg_name (i := 9) nd rfl (Or.inl rfl))) dgs_nil))) dgs_nil))) (dss_cons (ds_if (DW.te (dw_or (dt_cmp (op_neD hr.units) os_ne.op (de_bin op_sub os_I0.op (de_bin op_mulW os_I.op (de_var 7 (pv 7)) (de_var 8 (pv 8))) (de_bin op_mulW os_I.op (de_var 6 (pv 6)) (de_var 9 (pv 9)))) de_int (nomark _)) (dw_or (dt_cmp op_le os_B0.op (de_bin op_addA od_add (de_var 7 (pv 7)) (de_var 9 (pv 9))) (de_var 0 (pv 0)) (nomark _)) (dw_or1 (dt_cmp op_gt os_B0.op (calBi (call_max2 rfl) oa_max g.n_max (da_cons (de_var 7 (pv 7)) (da_cons (de_var 9 (pv 9)) da_nil))) (de_var 0 (pv 0)) (nomark _)))))) (dss_one (ds_ret de_bl)) dss_nil)
  (dss_cons (ds_par (da_cons (de_bin op_addA od_add (de_bin op_mulW os_I.op (de_bin op_mulW os_I.op (de_var 4 (pv 4)) (de_var 7 (pv 7))) (de_var 9 (pv 9))) (de_var 5 (pv 5))) (da_cons (de_bin op_mulW os_I.op (de_bin op_mulW os_I.op (de_var 5 (pv 5)) (de_var 7 (pv 7))) (de_var 9 (pv 9))) da_nil)) (fun ta h => ps_par (i := 4) (j := 5) rfl nd rfl rfl (by decide) rfl rfl h (by rfl)))
  (dss_cons (ds_set (i := 10) nd rfl (Or.inl rfl) (calD h__law_common (hr.mono (by decide)) cld_mono (da_cons (de_var 4 (pv 4)) (da_cons (de_var 5 (pv 5)) da_nil))))
  (dss_one (ds_par (da_cons (de_bin op_fdivW os_I.op (de_var 4 (pv 4)) (de_var 10 (pv 10))) (da_cons (de_bin op_fdivW os_I.op (de_var 5 (pv 5)) (de_var 10 (pv 10))) da_nil)) (fun ta h => ps_par (i := 4) (j := 5) rfl nd rfl rfl (by decide) rfl rfl h (by rfl))))))))
  (dss_cons (ds_if (dt_cmp (op_neD hr.units) os_ne.op (de_tup (da_cons (de_var 4 (pv 4)) (da_cons (de_var 5 (pv 5)) da_nil))) (de_tup (da_cons de_int (da_cons de_int da_nil))) (nomark _)) (dss_one (ds_ret de_bl)) dss_nil)
  (dss_one (ds_ret (de_and (de_cmp (op_eqD hr.units) os_eq.op (de_var 1 (pv 1)) (calTy call_tuple_of oa_tuple g.n_tuple (da_cons (de_frz (df_comp (own := [("a", 6), ("b", 7)]) rfl nd (di_tup (de_revA (de_var 1 (pv 1)))) (blkOk_by (N := N__law_row_right) (sc := defScope s__law_row_right) (by decide +kernel)) (fun _ _ _ _ _ => (pg_tup rfl (pgs_cons (pg_name (i := 6) nd rfl (Or.inl rfl)) (pgs_cons (pg_name (i := 7) nd rfl (Or.inl rfl)) pgs_nil)))) (tg_tup (tgs_cons (tg_name (by decide)) (tgs_cons (tg_name (by decide)) tgs_nil))) (fun _ _ _ _ _ => dts_nil) (fun _ _ _ _ _ => (de_tup (da_cons (de_bin op_sub os_I0.op (de_var 7 (pv 7)) (de_var 6 (pv 6))) (da_cons (de_var 7 (pv 7)) da_nil)))))) da_nil)) (nomark _)) (de_one (de_cmp (op_eqD hr.units) os_eq.op (de_frz (df_comp (own := [("k", 3)]) rfl nd (di_rng2 (da_cons de_int (da_cons (de_bin op_addA od_add (de_var 0 (pv 0)) de_int) da_nil)) (fun ta h => pi_range2 rfl g.n_range h)) (blkOk_by (N := N__law_row_right) (sc := defScope s__law_row_right) (by decide +kernel)) (fun _ _ _ _ _ => (pg_name (i := 3) nd rfl (Or.inl rfl))) (tg_name (by decide)) (fun _ _ _ _ _ => dts_nil) (fun _ _ _ _ _ => (calD h_phi (hr.mono (by decide)) cld_mono (da_cons (de_var 3 (pv 3)) da_nil))))) (de_frz (df_comp (own := [("k", 3)]) rfl nd (di_rng2 (da_cons de_int (da_cons (de_bin op_addA od_add (de_var 0 (pv 0)) de_int) da_nil)) (fun ta h => pi_range2 rfl g.n_range h)) (blkOk_by (N := N__law_row_right) (sc := defScope s__law_row_right) (by decide +kernel)) (fun _ _ _ _ _ => (pg_name (i := 3) nd rfl (Or.inl rfl))) (tg_name (by decide)) (fun _ _ _ _ _ => dts_nil) (fun _ _ _ _ _ => (calD h__law_phi (hr.mono (by decide)) cld_mono (da_cons (de_var 3 (pv 3)) da_nil))))) (nomark _)))))))))))

abbrev s__law_undone : Stmt := top 55
theorem sc__law_undone : FnScope N__law_undone ["a", "n"] (defScope s__law_undone) := ⟨rfl, rfl, rfl, by decide +kernel, rfl, by decide +kernel, by decide +kernel⟩
theorem cal__law_undone (A : DefAt K mg "_law_undone" s__law_undone ["a", "n"]) (g : Gl K mg)  : Cal P w K mg base 1 "_law_undone" (spD K C__law_undone) := by
  refine cal_d A sc__law_undone t__law_undone (by rfl) (fun f cdv A outer s H E hr => ?_)
  have nd := sc__law_undone.nd
  exact (dss_cons (ds_asg (de_tup (da_cons (de_bin op_mod os_I.op (de_var 0 (pv 0)) (de_var 1 (pv 1))) (da_cons (de_var 1 (pv 1)) (da_cons de_int (da_cons de_int da_nil))))) (dg_tup rfl (dgs_cons (dg_name (pg_name (i := 2) nd rfl (Or.inl rfl))) (dgs_cons (dg_name (pg_name (i := 3) nd rfl (Or.inl rfl))) (dgs_cons (dg_name (pg_name (i := 4) nd rfl (Or.inl rfl))) (dgs_cons (dg_name (pg_name (i := 5) nd rfl (Or.inl rfl))) dgs_nil))))))
  (dss_cons (ds_while PassesOwn.never (dt_cmp (op_neD hr.units) os_ne.op (de_var 2 (pv 2)) de_int (nomark _)) (dss_cons (ds_set (i := 6) nd rfl (Or.inl rfl) (de_bin op_fdivW os_I.op (de_var 3 (pv 3)) (de_var 2 (pv 2))))
  (dss_one (ds_asg (de_tup (da_cons (de_bin op_sub os_I0.op (de_var 3 (pv 3)) (de_bin op_mulW os_I.op (de_var 6 (pv 6)) (de_var 2 (pv 2)))) (da_cons (de_var 2 (pv 2)) (da_cons (de_bin op_sub os_I0.op (de_var 5 (pv 5)) (de_bin op_mulW os_I.op (de_var 6 (pv 6)) (de_var 4 (pv 4)))) (da_cons (de_var 4 (pv 4)) da_nil))))) (dg_tup rfl (dgs_cons (dg_name (pg_name (i := 2) nd rfl (Or.inl rfl))) (dgs_cons (dg_name (pg_name (i := 3) nd rfl (Or.inl rfl))) (dgs_cons (dg_name (pg_name (i := 4) nd rfl (Or.inl rfl))) (dgs_cons (dg_name (pg_name (i := 5) nd rfl (Or.inl rfl))) dgs_nil)))))))))
  (dss_one (ds_ret (de_bin op_mod os_I.op (de_var 5 (pv 5)) (de_var 1 (pv 1)))))))

abbrev s__law_neighbours : Stmt := top 56
theorem sc__law_neighbours : FnScope N__law_neighbours ["n", "a", "b"] (defScope s__law_neighbours) := ⟨rfl, rfl, rfl, by decide +kernel, rfl, by decide +kernel, by decide +kernel⟩
theorem cal__law_neighbours (A : DefAt K mg "_law_neighbours" s__law_neighbours ["n", "a", "b"]) (g : Gl K mg) (h__law_undone : Cal P w K mg base 1 "_law_undone" (spD K C__law_undone)) : Cal P w K mg base 2 "_law_neighbours" (spD K C__law_neighbours) := by
  refine cal_d A sc__law_neighbours t__law_neighbours (by rfl) (fun f cdv A outer s H E hr => ?_)
  have nd := sc__law_neighbours.nd
  exact (dss_cons (ds_set (i := 3) nd rfl (Or.inl rfl) (de_if (dt_cmp op_gt os_B0.op (de_var 2 (pv 2)) de_int (nomark _)) (calD h__law_undone (hr.mono (by decide)) cld_mono (da_cons (de_var 1 (pv 1)) (da_cons (de_var 2 (pv 2)) da_nil))) de_int))
  (dss_cons (ds_set (i := 4) nd rfl (Or.inl rfl) (de_bin op_sub os_I0.op (de_var 0 (pv 0)) (de_bin op_mod os_I.op (de_bin op_sub os_I0.op (de_var 0 (pv 0)) (de_var 3 (pv 3))) (de_var 2 (pv 2)))))
  (dss_cons (ds_set (i := 5) nd rfl (Or.inl rfl) (de_bin op_fdivW os_I.op (de_bin op_sub os_I0.op (de_bin op_mulW os_I.op (de_var 1 (pv 1)) (de_var 4 (pv 4))) de_int) (de_var 2 (pv 2))))
  (dss_cons (ds_set (i := 6) nd rfl (Or.inl rfl) (de_bin op_sub os_I0.op (de_var 0 (pv 0)) (de_bin op_mod os_I.op (de_bin op_addA od_add (de_var 0 (pv 0)) (de_var 3 (pv 3))) (de_var 2 (pv 2)))))
  (dss_one (ds_ret (de_tup (da_cons (de_tup (da_cons (de_var 5 (pv 5)) (da_cons (de_var 4 (pv 4)) da_nil))) (da_cons (de_tup (da_cons (de_bin op_fdivW os_I.op (de_bin op_addA od_add (de_bin op_mulW os_I.op (de_var 1 (pv 1)) (de_var 6 (pv 6))) de_int) (de_var 2 (pv 2))) (da_cons (de_var 6 (pv 6)) da_nil))) da_nil)))))))))

abbrev s__law_neighbours_right : Stmt := top 57
theorem sc__law_neighbours_right : FnScope N__law_neighbours_right ["dice"] (defScope s__law_neighbours_right) := ⟨rfl, rfl, rfl, by decide +kernel, rfl, by decide +kernel, by decide +kernel⟩
theorem cal__law_neighbours_right (A : DefAt K mg "_law_neighbours_right" s__law_neighbours_right ["dice"]) (g : Gl K mg) (h__law_roll : Cal P w K mg base 1 "_law_roll" (spB K C__law_roll)) (h__law_one_of : Cal P w K mg base 2 "_law_one_of" (spB K C__law_one_of)) (h__law_common : Cal P w K mg base 1 "_law_common" (spD K C__law_common)) (h_farey_neighbours : Cal P w K mg base 5 "farey_neighbours" (spD K C_farey_neighbours)) (h__law_neighbours : Cal P w K mg base 2 "_law_neighbours" (spD K C__law_neighbours)) (h_simplest_between : Cal P w K mg base 4 "simplest_between" (spD K C_simplest_between)) (h_do_see : Cal P w K mg base 6 "do_see" (spD K C_do_see)) : Cal P w K mg base 7 "_law_neighbours_right" (spB K C__law_neighbours_right) := by
  refine cal_b A sc__law_neighbours_right t__law_neighbours_right (by rfl) (fun f cdv A outer s H E hr => ?_)
  have nd := sc__law_neighbours_right.nd
  exact (dss_cons (ds_set (i := 1) nd rfl (Or.inl rfl) (de_bin op_addA od_add de_int (calL 0 h__law_roll (hr.mono (by decide)) clb_mono (pv 0) (da_cons (calL 0 h__law_one_of (hr.mono (by decide)) clb_mono (pv 0) (da_cons (de_lst (da_cons de_int (da_cons de_int (da_cons de_int da_nil)))) da_nil)) da_nil))))
  (dss_cons (ds_set (i := 2) nd rfl (Or.inl rfl) (de_bin op_addA od_add de_int (calL 0 h__law_roll (hr.mono (by decide)) clb_mono (pv 0) (da_cons (de_bin op_sub os_I0.op (de_var 1 (pv 1)) de_int) da_nil))))
  (dss_cons (ds_set (i := 3) nd rfl (Or.inl rfl) (de_bin op_addA od_add de_int (calL 0 h__law_roll (hr.mono (by decide)) clb_mono (pv 0) (da_cons (de_bin op_sub os_I0.op (de_var 2 (pv 2)) de_int) da_nil))))
  (dss_cons (ds_set (i := 4) nd rfl (Or.inl rfl) (calD h__law_common (hr.mono (by decide)) cld_mono (da_cons (de_var 3 (pv 3)) (da_cons (de_var 2 (pv 2)) da_nil))))
  (dss_cons (ds_par (da_cons (de_bin op_fdivW os_I.op (de_var 3 (pv 3)) (de_var 4 (pv 4))) (da_cons (de_bin op_fdivW os_I.op (de_var 2 (pv 2)) (de_var 4 (pv 4))) da_nil)) (fun ta h => ps_par (i := 3) (j := 2) rfl nd rfl rfl (by decide) rfl rfl h (by rfl)))
  (dss_cons (ds_if (DW.te (dw_or (dt_cmp (op_neD hr.units) os_ne.op (calD h_farey_neighbours (hr.mono (by decide)) cld_mono (da_cons (de_var 1 (pv 1)) (da_cons (de_tup (da_cons (de_var 3 (pv 3)) (da_cons (de_var 2 (pv 2)) da_nil))) da_nil))) (calD h__law_neighbours (hr.mono (by decide)) cld_mono (da_cons (de_var 1 (pv 1)) (da_cons (de_var 3 (pv 3)) (da_cons (de_var 2 (pv 2)) da_nil)))) (nomark _)) (dw_or (dt_cmp (op_neD hr.units) os_ne.op (calD h_farey_neighbours (hr.mono (by decide)) cld_mono (da_cons (de_var 1 (pv 1)) (da_cons (de_tup (da_cons de_int (da_cons de_int da_nil))) da_nil))) (de_tup (da_cons de_non (da_cons (de_tup (da_cons de_int (da_cons (de_var 1 (pv 1)) da_nil))) da_nil))) (nomark _)) (dw_or1 (dt_cmp (op_neD hr.units) os_ne.op (calD h_farey_neighbours (hr.mono (by decide)) cld_mono (da_cons (de_var 1 (pv 1)) (da_cons (de_tup (da_cons de_int (da_cons de_int da_nil))) da_nil))) (de_tup (da_cons (de_tup (da_cons (de_bin op_sub os_I0.op (de_var 1 (pv 1)) de_int) (da_cons (de_var 1 (pv 1)) da_nil))) (da_cons de_non da_nil))) (nomark _)))))) (dss_one (ds_ret de_bl)) dss_nil)
  (dss_cons (ds_asg (calD h_farey_neighbours (hr.mono (by decide)) cld_mono (da_cons (de_var 1 (pv 1)) (da_cons (de_tup (da_cons (de_var 3 (pv 3)) (da_cons (de_var 2 (pv 2)) da_nil))) da_nil))) (dg_tup rfl (dgs_cons (dg_tup rfl (dgs_cons (dg_name (pg_name (i := 5) nd rfl (Or.inl rfl))) (dgs_cons (dg_name (pg_name (i := 6) nd rfl (Or.inl rfl))) dgs_nil))) (dgs_cons (dg_tup rfl (dgs_cons (dg_name (pg_name (i := 7) nd rfl (Or.inl rfl))) (dgs_cons (dg_name (pg_name (i := 8) nd rfl (Or.inl rfl))) dgs_nil))) dgs_nil))))
  (dss_cons (ds_if (DW.te (dw_or (dt_cmp (op_neD hr.units) os_ne.op (de_bin op_sub os_I0.op (de_bin op_mulW os_I.op (de_var 3 (pv 3)) (de_var 6 (pv 6))) (de_bin op_mulW os_I.op (de_var 2 (pv 2)) (de_var 5 (pv 5)))) de_int (nomark _)) (dw_or (dt_cmp (op_neD hr.units) os_ne.op (de_bin op_sub os_I0.op (de_bin op_mulW os_I.op (de_var 2 (pv 2)) (de_var 7 (pv 7))) (de_bin op_mulW os_I.op (de_var 3 (pv 3)) (de_var 8 (pv 8)))) de_int (nomark _)) (dw_or (dt_cmp (op_neD hr.units) os_ne.op (de_bin op_mulW os_I.op (de_bin op_addA od_add (de_var 5 (pv 5)) (de_var 7 (pv 7))) (de_var 2 (pv 2))) (de_bin op_mulW os_I.op (de_var 3 (pv 3)) (de_bin op_addA od_add (de_var 6 (pv 6)) (de_var 8 (pv 8)))) (nomark _)) (dw_or1 (dt_cmp (op_neD hr.units) os_ne.op (de_ix (calD h_farey_neighbours (hr.mono (by decide)) cld_mono (da_cons (de_var 1 (pv 1)) (da_cons (de_tup (da_cons (de_var 5 (pv 5)) (da_cons (de_var 6 (pv 6)) da_nil))) da_nil))) de_int (fun _ _ => rfl)) (de_tup (da_cons (de_var 3 (pv 3)) (da_cons (de_var 2 (pv 2)) da_nil))) (nomark _))))))) (dss_one (ds_ret de_bl)) dss_nil)
  (dss_cons (ds_if (DW.te (dw_or (dt_cmp (op_neD hr.units) os_ne.op (calD h_simplest_between (hr.mono (by decide)) cld_mono (da_cons (de_tup (da_cons (de_var 5 (pv 5)) (da_cons (de_var 6 (pv 6)) da_nil))) (da_cons (de_tup (da_cons (de_var 3 (pv 3)) (da_cons (de_var 2 (pv 2)) da_nil))) da_nil))) (de_tup (da_cons (de_bin op_addA od_add (de_var 3 (pv 3)) (de_var 5 (pv 5))) (da_cons (de_bin op_addA od_add (de_var 2 (pv 2)) (de_var 6 (pv 6))) da_nil))) (nomark _)) (dw_or (dt_cmp (op_neD hr.units) os_ne.op (calD h_simplest_between (hr.mono (by decide)) cld_mono (da_cons (de_tup (da_cons (de_var 3 (pv 3)) (da_cons (de_var 2 (pv 2)) da_nil))) (da_cons (de_tup (da_cons (de_var 7 (pv 7)) (da_cons (de_var 8 (pv 8)) da_nil))) da_nil))) (de_tup (da_cons (de_bin op_addA od_add (de_var 3 (pv 3)) (de_var 7 (pv 7))) (da_cons (de_bin op_addA od_add (de_var 2 (pv 2)) (de_var 8 (pv 8))) da_nil))) (nomark _)) (dw_or1 (dt_cmp op_gt os_B0.op (de_ix (calD h_simplest_between (hr.mono (by decide)) cld_mono (da_cons (de_tup (da_cons (de_var 5 (pv 5)) (da_cons (de_var 6 (pv 6)) da_nil))) (da_cons (de_tup (da_cons (de_var 7 (pv 7)) (da_cons (de_var 8 (pv 8)) da_nil))) da_nil))) de_int (fun _ _ => rfl)) (de_var 2 (pv 2)) (nomark _)))))) (dss_one (ds_ret de_bl)) dss_nil)
  (dss_one (ds_ret (de_and (de_cmp op_isBl os_isB.op (calD h_do_see (hr.mono (by decide)) cld_mono (da_cons (de_tup (da_cons de_int (da_cons de_int da_nil))) (da_cons (de_tup (da_cons (de_var 3 (pv 3)) (da_cons (de_var 2 (pv 2)) da_nil))) da_nil))) de_bl (nomark _)) (de_one (de_or (de_cmp op_gt os_B0.op (de_bin op_addA od_add (de_var 2 (pv 2)) (de_var 6 (pv 6))) de_int (nomark _)) (de_one (de_cmp op_isBl os_isB.op (calD h_do_see (hr.mono (by decide)) cld_mono (da_cons (de_tup (da_cons (de_var 5 (pv 5)) (da_cons (de_var 6 (pv 6)) da_nil))) (da_cons (de_tup (da_cons (de_bin op_addA od_add (de_var 3 (pv 3)) (de_var 5 (pv 5))) (da_cons (de_bin op_addA od_add (de_var 2 (pv 2)) (de_var 6 (pv 6))) da_nil))) da_nil))) de_bl (nomark _)))))))))))))))))

abbrev s__law_turned : Stmt := top 59
theorem sc__law_turned : FnScope N__law_turned ["one", "far"] (defScope s__law_turned) := ⟨rfl, rfl, rfl, by decide +kernel, rfl, by decide +kernel, by decide +kernel⟩
theorem calr__law_turned (A : DefAt K mg "_law_turned" s__law_turned ["one", "far"]) (g : Gl K mg)  : ∀ k : Nat, Cal P w K mg base (0 + k) "_law_turned" (spD K (R__law_turned k))
  | 0 => cal_none A
  | k + 1 => by
    have h__law_turned := calr__law_turned A g  k
    refine cal_d A sc__law_turned (t__law_turned (R__law_turned k)) (by rfl) (fun f cdv A outer s H E hr => ?_)
    have nd := sc__law_turned.nd
    exact (dss_cons (ds_asg (de_tup (da_cons (de_var 0 (pv 0)) (da_cons (de_var 1 (pv 1)) da_nil))) (dg_tup rfl (dgs_cons (dg_tup rfl (dgs_cons (dg_name (pg_name (i := 2) nd rfl (Or.inl rfl))) (dgs_cons (dg_name (pg_name (i := 3) nd rfl (Or.inl rfl))) dgs_nil))) (dgs_cons (dg_tup rfl (dgs_cons (dg_name (pg_name (i := 4) nd rfl (Or.inl rfl))) (dgs_cons (dg_name (pg_name (i := 5) nd rfl (Or.inl rfl))) dgs_nil))) dgs_nil))))
  (dss_cons (ds_set (i := 6) nd rfl (Or.inl rfl) (de_bin op_fdivW os_I.op (de_var 2 (pv 2)) (de_var 3 (pv 3))))
  (dss_cons (ds_if (dt_cmp op_lt os_B0.op (de_bin op_mulW os_I.op (de_bin op_addA od_add (de_var 6 (pv 6)) de_int) (de_var 5 (pv 5))) (de_var 4 (pv 4)) (nomark _)) (dss_one (ds_ret (de_tup (da_cons (de_bin op_addA od_add (de_var 6 (pv 6)) de_int) (da_cons de_int da_nil))))) dss_nil)
  (dss_cons (ds_par (da_cons (de_bin op_sub os_I0.op (de_var 2 (pv 2)) (de_bin op_mulW os_I.op (de_var 6 (pv 6)) (de_var 3 (pv 3)))) (da_cons (de_bin op_sub os_I0.op (de_var 4 (pv 4)) (de_bin op_mulW os_I.op (de_var 6 (pv 6)) (de_var 5 (pv 5)))) da_nil)) (fun ta h => ps_par (i := 2) (j := 4) rfl nd rfl rfl (by decide) rfl rfl h (by rfl)))
  (dss_cons (ds_if (dt_cmp (op_eqD hr.units) os_eq.op (de_var 2 (pv 2)) de_int (nomark _)) (dss_cons (ds_set (i := 7) nd rfl (Or.inl rfl) (de_bin op_addA od_add (de_bin op_fdivW os_I.op (de_var 5 (pv 5)) (de_var 4 (pv 4))) de_int))
  (dss_one (ds_ret (de_tup (da_cons (de_bin op_addA od_add (de_bin op_mulW os_I.op (de_var 6 (pv 6)) (de_var 7 (pv 7))) de_int) (da_cons (de_var 7 (pv 7)) da_nil)))))) dss_nil)
  (dss_cons (ds_asg (calD h__law_turned (hr.mono (by first | omega | (simp only [Nat.add_eq]; omega))) (m__law_turned k) (da_cons (de_tup (da_cons (de_var 5 (pv 5)) (da_cons (de_var 4 (pv 4)) da_nil))) (da_cons (de_tup (da_cons (de_var 3 (pv 3)) (da_cons (de_var 2 (pv 2)) da_nil))) da_nil))) (dg_tup rfl (dgs_cons (dg_name (pg_name (i := 8) nd rfl (Or.inl rfl))) (dgs_cons (dg_name (pg_name (i := 9) nd rfl (Or.inl rfl))) dgs_nil))))
  (dss_one (ds_ret (de_tup (da_cons (de_bin op_addA od_add (de_bin op_mulW os_I.op (de_var 6 (pv 6)) (de_var 8 (pv 8))) (de_var 9 (pv 9))) (da_cons (de_var 8 (pv 8)) da_nil)))))))))))
theorem cal__law_turned (A : DefAt K mg "_law_turned" s__law_turned ["one", "far"]) (g : Gl K mg)  : Cal P w K mg base 225 "_law_turned" (spD K C__law_turned) := calr__law_turned A g  225

abbrev s__law_simplest : Stmt := top 58
theorem sc__law_simplest : FnScope N__law_simplest ["one", "far"] (defScope s__law_simplest) := ⟨rfl, rfl, rfl, by decide +kernel, rfl, by decide +kernel, by decide +kernel⟩
theorem cal__law_simplest (A : DefAt K mg "_law_simplest" s__law_simplest ["one", "far"]) (g : Gl K mg) (h__law_turned : Cal P w K mg base 225 "_law_turned" (spD K C__law_turned)) : Cal P w K mg base 226 "_law_simplest" (spD K C__law_simplest) := by
  refine cal_d A sc__law_simplest t__law_simplest (by rfl) (fun f cdv A outer s H E hr => ?_)
  have nd := sc__law_simplest.nd
  exact (dss_cons (ds_asg (de_tup (da_cons (de_var 0 (pv 0)) (da_cons (de_var 1 (pv 1)) da_nil))) (dg_tup rfl (dgs_cons (dg_tup rfl (dgs_cons (dg_name (pg_name (i := 2) nd rfl (Or.inl rfl))) (dgs_cons (dg_name (pg_name (i := 3) nd rfl (Or.inl rfl))) dgs_nil))) (dgs_cons (dg_tup rfl (dgs_cons (dg_name (pg_name (i := 4) nd rfl (Or.inl rfl))) (dgs_cons (dg_name (pg_name (i := 5) nd rfl (Or.inl rfl))) dgs_nil))) dgs_nil))))
  (dss_cons (ds_set (i := 6) nd rfl (Or.inl rfl) (de_bin op_fdivW os_I.op (de_var 2 (pv 2)) (de_var 3 (pv 3))))
  (dss_cons (ds_if (dt_cmp op_lt os_B0.op (de_bin op_mulW os_I.op (de_bin op_addA od_add (de_var 6 (pv 6)) de_int) (de_var 5 (pv 5))) (de_var 4 (pv 4)) (nomark _)) (dss_one (ds_ret (de_tup (da_cons (de_bin op_addA od_add (de_var 6 (pv 6)) de_int) (da_cons de_int da_nil))))) dss_nil)
  (dss_cons (ds_par (da_cons (de_bin op_sub os_I0.op (de_var 2 (pv 2)) (de_bin op_mulW os_I.op (de_var 6 (pv 6)) (de_var 3 (pv 3)))) (da_cons (de_bin op_sub os_I0.op (de_var 4 (pv 4)) (de_bin op_mulW os_I.op (de_var 6 (pv 6)) (de_var 5 (pv 5)))) da_nil)) (fun ta h => ps_par (i := 2) (j := 4) rfl nd rfl rfl (by decide) rfl rfl h (by rfl)))
  (dss_cons (ds_if (dt_cmp (op_eqD hr.units) os_eq.op (de_var 2 (pv 2)) de_int (nomark _)) (dss_one (ds_ret (de_tup (da_cons (de_bin op_addA od_add (de_bin op_mulW os_I.op (de_var 6 (pv 6)) (de_bin op_addA od_add (de_bin op_fdivW os_I.op (de_var 5 (pv 5)) (de_var 4 (pv 4))) de_int)) de_int) (da_cons (de_bin op_addA od_add (de_bin op_fdivW os_I.op (de_var 5 (pv 5)) (de_var 4 (pv 4))) de_int) da_nil))))) dss_nil)
  (dss_cons (ds_asg (calD h__law_turned (hr.mono (by decide)) (m__law_turned _) (da_cons (de_tup (da_cons (de_var 5 (pv 5)) (da_cons (de_var 4 (pv 4)) da_nil))) (da_cons (de_tup (da_cons (de_var 3 (pv 3)) (da_cons (de_var 2 (pv 2)) da_nil))) da_nil))) (dg_tup rfl (dgs_cons (dg_name (pg_name (i := 7) nd rfl (Or.inl rfl))) (dgs_cons (dg_name (pg_name (i := 8) nd rfl (Or.inl rfl))) dgs_nil))))
  (dss_one (ds_ret (de_tup (da_cons (de_bin op_addA od_add (de_bin op_mulW os_I.op (de_var 6 (pv 6)) (de_var 7 (pv 7))) (de_var 8 (pv 8))) (da_cons (de_var 7 (pv 7)) da_nil)))))))))))

abbrev s__law_simplest_right : Stmt := top 60
theorem sc__law_simplest_right : FnScope N__law_simplest_right ["dice"] (defScope s__law_simplest_right) := ⟨rfl, rfl, rfl, by decide +kernel, rfl, by decide +kernel, by decide +kernel⟩
theorem cal__law_simplest_right (A : DefAt K mg "_law_simplest_right" s__law_simplest_right ["dice"]) (g : Gl K mg) (h__law_one_of : Cal P w K mg base 2 "_law_one_of" (spB K C__law_one_of)) (h__law_roll : Cal P w K mg base 1 "_law_roll" (spB K C__law_roll)) (h__law_common : Cal P w K mg base 1 "_law_common" (spD K C__law_common)) (h_simplest_between : Cal P w K mg base 4 "simplest_between" (spD K C_simplest_between)) (h__law_simplest : Cal P w K mg base 226 "_law_simplest" (spD K C__law_simplest)) : Cal P w K mg base 227 "_law_simplest_right" (spB K C__law_simplest_right) := by
  refine cal_b A sc__law_simplest_right t__law_simplest_right (by rfl) (fun f cdv A outer s H E hr => ?_)
  have nd := sc__law_simplest_right.nd
  exact (dss_cons (ds_set (i := 1) nd rfl (Or.inl rfl) (calL 0 h__law_one_of (hr.mono (by decide)) clb_mono (pv 0) (da_cons (de_lst (da_cons de_int (da_cons de_int (da_cons (de_bin op_pow os_I.op de_int de_int) da_nil)))) da_nil)))
  (dss_cons (ds_set (i := 2) nd rfl (Or.inl rfl) (calL 0 h__law_one_of (hr.mono (by decide)) clb_mono (pv 0) (da_cons (de_lst (da_cons de_int (da_cons de_int (da_cons (de_bin op_pow os_I.op de_int de_int) da_nil)))) da_nil)))
  (dss_cons (ds_setF (i := 3) nd rfl (Or.inl rfl) (df_lst da_nil))
  (dss_cons (ds_for PassesOwn.never rfl (di_rng1 (da_cons de_int da_nil) (fun ta h => pi_range1 rfl g.n_range h)) (dg_name (pg_name (i := 4) nd rfl (Or.inl rfl))) (dss_cons (ds_set (i := 5) nd rfl (Or.inl rfl) (de_bin op_addA od_add (de_bin op_addA od_add de_int (calL 0 h__law_roll (hr.mono (by decide)) clb_mono (pv 0) (da_cons (de_var 1 (pv 1)) da_nil))) (de_var 2 (pv 2))))
  (dss_cons (ds_set (i := 6) nd rfl (Or.inl rfl) (de_bin op_addA od_add (de_bin op_sub os_I0.op (calL 0 h__law_roll (hr.mono (by decide)) clb_mono (pv 0) (da_cons (de_bin op_mulW os_I.op de_int (de_var 1 (pv 1))) da_nil)) (de_var 1 (pv 1))) (de_if (dt_cmp op_gt os_B0.op (de_var 2 (pv 2)) de_int (nomark _)) (de_bin op_fdivW os_I.op (de_var 2 (pv 2)) de_int) de_int)))
  (dss_cons (ds_set (i := 7) nd rfl (Or.inl rfl) (calD h__law_common (hr.mono (by decide)) cld_mono (da_cons (de_var 6 (pv 6)) (da_cons (de_var 5 (pv 5)) da_nil))))
  (dss_one (ds_append (i := 3) (de_tup (da_cons (de_bin op_fdivW os_I.op (de_var 6 (pv 6)) (de_var 7 (pv 7))) (da_cons (de_bin op_fdivW os_I.op (de_var 5 (pv 5)) (de_var 7 (pv 7))) da_nil))) (fun t h => ps_expr (pe_bm PySem.F.plainAttrs_list PySem.F.slot_list_append PySem.F.type_list_append mt_append (pv 3) h))))))))
  (dss_cons (ds_asg (de_var 3 (pv 3)) (dg_lst rfl (dgs_cons (dg_tup rfl (dgs_cons (dg_name (pg_name (i := 6) nd rfl (Or.inl rfl))) (dgs_cons (dg_name (pg_name (i := 5) nd rfl (Or.inl rfl))) dgs_nil))) (dgs_cons (dg_tup rfl (dgs_cons (dg_name (pg_name (i := 8) nd rfl (Or.inl rfl))) (dgs_cons (dg_name (pg_name (i := 9) nd rfl (Or.inl rfl))) dgs_nil))) dgs_nil))))
  (dss_cons (ds_if (dt_cmp (op_eqD hr.units) os_eq.op (de_bin op_mulW os_I.op (de_var 6 (pv 6)) (de_var 9 (pv 9))) (de_bin op_mulW os_I.op (de_var 5 (pv 5)) (de_var 8 (pv 8))) (nomark _)) (dss_one (ds_ret de_bl)) dss_nil)
  (dss_cons (ds_asg (de_if (dt_cmp op_lt os_B0.op (de_bin op_mulW os_I.op (de_var 6 (pv 6)) (de_var 9 (pv 9))) (de_bin op_mulW os_I.op (de_var 5 (pv 5)) (de_var 8 (pv 8))) (nomark _)) (de_tup (da_cons (de_ixN 3 (pv 3) de_int (fun _ _ => rfl)) (da_cons (de_ixN 3 (pv 3) de_int (fun _ _ => rfl)) da_nil))) (de_tup (da_cons (de_ixN 3 (pv 3) de_int (fun _ _ => rfl)) (da_cons (de_ixN 3 (pv 3) de_int (fun _ _ => rfl)) da_nil)))) (dg_tup rfl (dgs_cons (dg_name (pg_name (i := 10) nd rfl (Or.inl rfl))) (dgs_cons (dg_name (pg_name (i := 11) nd rfl (Or.inl rfl))) dgs_nil))))
  (dss_cons (ds_set (i := 12) nd rfl (Or.inl rfl) (calD h_simplest_between (hr.mono (by decide)) cld_mono (da_cons (de_var 10 (pv 10)) (da_cons (de_var 11 (pv 11)) da_nil))))
  (dss_cons (ds_asg (de_var 12 (pv 12)) (dg_tup rfl (dgs_cons (dg_name (pg_name (i := 13) nd rfl (Or.inl rfl))) (dgs_cons (dg_name (pg_name (i := 14) nd rfl (Or.inl rfl))) dgs_nil))))
  (dss_cons (ds_if (DW.te (dw_or (dt_cmp (op_neD hr.units) os_ne.op (de_var 12 (pv 12)) (calD h__law_simplest (hr.mono (by decide)) cld_mono (da_cons (de_var 10 (pv 10)) (da_cons (de_var 11 (pv 11)) da_nil))) (nomark _)) (dw_or (dt_not (DW.te (dw_and (dt_cmp op_lt os_B0.op (de_bin op_mulW os_I.op (de_ix (de_var 10 (pv 10)) de_int (fun _ _ => rfl)) (de_var 14 (pv 14))) (de_bin op_mulW os_I.op (de_var 13 (pv 13)) (de_ix (de_var 10 (pv 10)) de_int (fun _ _ => rfl))) (nomark _)) (dw_and1 (dt_cmp op_lt os_B0.op (de_bin op_mulW os_I.op (de_var 13 (pv 13)) (de_ix (de_var 11 (pv 11)) de_int (fun _ _ => rfl))) (de_bin op_mulW os_I.op (de_ix (de_var 11 (pv 11)) de_int (fun _ _ => rfl)) (de_var 14 (pv 14))) (nomark _)))))) (dw_or1 (dt_cmp (op_neD hr.units) os_ne.op (calD h__law_common (hr.mono (by decide)) cld_mono (da_cons (de_var 13 (pv 13)) (da_cons (de_var 14 (pv 14)) da_nil))) de_int (nomark _)))))) (dss_one (ds_ret de_bl)) dss_nil)
  (dss_cons (ds_if (dt_cmp op_gt os_B0.op (de_var 14 (pv 14)) de_int (nomark _)) (dss_one (ds_ret de_bl)) dss_nil)
  (dss_cons (ds_for PassesOwn.never rfl (di_rng2 (da_cons de_int (da_cons (de_var 14 (pv 14)) da_nil)) (fun ta h => pi_range2 rfl g.n_range h)) (dg_name (pg_name (i := 15) nd rfl (Or.inl rfl))) (dss_one (ds_if (dt_cmp op_lt os_B0.op (de_bin op_mulW os_I.op (de_bin op_addA od_add (de_bin op_fdivW os_I.op (de_bin op_mulW os_I.op (de_ix (de_var 10 (pv 10)) de_int (fun _ _ => rfl)) (de_var 15 (pv 15))) (de_ix (de_var 10 (pv 10)) de_int (fun _ _ => rfl))) de_int) (de_ix (de_var 11 (pv 11)) de_int (fun _ _ => rfl))) (de_bin op_mulW os_I.op (de_ix (de_var 11 (pv 11)) de_int (fun _ _ => rfl)) (de_var 15 (pv 15))) (nomark _)) (dss_one (ds_ret de_bl)) dss_nil)))
  (dss_one (ds_ret (de_cmp (op_eqD hr.units) os_eq.op (de_bin op_addA od_add (de_bin op_fdivW os_I.op (de_bin op_mulW os_I.op (de_ix (de_var 10 (pv 10)) de_int (fun _ _ => rfl)) (de_var 14 (pv 14))) (de_ix (de_var 10 (pv 10)) de_int (fun _ _ => rfl))) de_int) (de_var 13 (pv 13)) (nomark _))))))))))))))))

abbrev s_law : Stmt := top 61
theorem sc_law : FnScope N_law ["script"] (defScope s_law) := ⟨rfl, rfl, rfl, by decide +kernel, rfl, by decide +kernel, by decide +kernel⟩
theorem law_law (A : LawAt K mg "law" s_law "script") (g : Gl K mg) (h0__law_dice : ∀ base, Cal P w K mg base 1 "_law_dice" (spF K C__law_dice)) (h0__law_row_right : ∀ base, Cal P w K mg base 6 "_law_row_right" (spD K C__law_row_right)) (h0__law_roll : ∀ base, Cal P w K mg base 1 "_law_roll" (spB K C__law_roll)) (h0__law_one_of : ∀ base, Cal P w K mg base 2 "_law_one_of" (spB K C__law_one_of)) (h0__law_neighbours_right : ∀ base, Cal P w K mg base 7 "_law_neighbours_right" (spB K C__law_neighbours_right)) (h0__law_simplest_right : ∀ base, Cal P w K mg base 227 "_law_simplest_right" (spB K C__law_simplest_right)) (h0_makers_of_divisor : ∀ base, Cal P w K mg base 6 "makers_of_divisor" (spD K C_makers_of_divisor)) (h0_simplest_between : ∀ base, Cal P w K mg base 4 "simplest_between" (spD K C_simplest_between)) (h0_farey_size : ∀ base, Cal P w K mg base 5 "farey_size" (spD K C_farey_size)) : ∃ f fd, mg "law" = some (.ref f) ∧ (∀ (s : Shared) (u : Value), BindsTo s fd ⟨[u], []⟩ [("script", u)]) ∧ ∀ base, FnOk P w K mg base CX0 228 f fd ["script"] (spD K C_law) := by
  refine law_d A sc_law t_law (fun base f cdv A outer s H E hr => ?_)
  have nd := sc_law.nd
  have h__law_dice := h0__law_dice base
  have h__law_row_right := h0__law_row_right base
  have h__law_roll := h0__law_roll base
  have h__law_one_of := h0__law_one_of base
  have h__law_neighbours_right := h0__law_neighbours_right base
  have h__law_simplest_right := h0__law_simplest_right base
  have h_makers_of_divisor := h0_makers_of_divisor base
  have h_simplest_between := h0_simplest_between base
  have h_farey_size := h0_farey_size base
  exact (dss_cons (ds_for PassesOwn.never rfl (di_rng1 (da_cons (calBi (call_max2 rfl) oa_max g.n_max (da_cons de_int (da_cons (calBi (call_min2 rfl) oa_min g.n_min (da_cons de_int (da_cons (calBi call_len_seq oa_len g.n_len (da_cons (de_var 0 (pv 0)) da_nil)) da_nil))) da_nil))) da_nil) (fun ta h => pi_range1 rfl g.n_range h)) (dg_name (pg_name (i := 1) nd rfl (Or.inl rfl))) (dss_cons (ds_setF (i := 2) nd rfl (Or.inl rfl) (calF h__law_dice (hr.mono (by decide)) clf_mono (da_cons (de_var 0 (pv 0)) (da_cons (de_var 1 (pv 1)) da_nil))))
  (dss_cons (ds_if (DW.te (dw_or (dt_not (dt_val (calD h__law_row_right (hr.mono (by decide)) cld_mono (da_cons (de_bin op_addA od_add de_int (calL 2 h__law_roll (hr.mono (by decide)) clb_mono (pv 2) (da_cons (calL 2 h__law_one_of (hr.mono (by decide)) clb_mono (pv 2) (da_cons (de_lst (da_cons de_int (da_cons de_int da_nil))) da_nil)) da_nil))) da_nil)))) (dw_or (dt_not (dt_val (calL 2 h__law_neighbours_right (hr.mono (by decide)) clb_mono (pv 2) da_nil))) (dw_or1 (dt_not (dt_val (calL 2 h__law_neighbours_right (hr.mono (by decide)) clb_mono (pv 2) da_nil))))))) (dss_one (ds_ret de_bl)) dss_nil)
  (dss_one (ds_if (DW.te (dw_or (dt_not (dt_val (calL 2 h__law_simplest_right (hr.mono (by decide)) clb_mono (pv 2) da_nil))) (dw_or (dt_not (dt_val (calL 2 h__law_simplest_right (hr.mono (by decide)) clb_mono (pv 2) da_nil))) (dw_or1 (dt_not (dt_val (calL 2 h__law_simplest_right (hr.mono (by decide)) clb_mono (pv 2) da_nil))))))) (dss_one (ds_ret de_bl)) dss_nil)))))
  (dss_cons (ds_asg (calD h_makers_of_divisor (hr.mono (by decide)) cld_mono (da_cons (de_tup (da_cons de_int (da_cons de_int da_nil))) da_nil)) (dg_tup rfl (dgs_cons (dg_name (pg_name (i := 3) nd rfl (Or.inl rfl))) (dgs_cons (dg_name (pg_name (i := 4) nd rfl (Or.inl rfl))) dgs_nil))))
  (dss_one (ds_ret (de_and (de_cmp (op_eqD hr.units) os_eq.op (de_bin op_addA od_add (de_bin op_mulW os_I.op de_int (de_var 3 (pv 3))) (de_bin op_mulW os_I.op de_int (de_var 4 (pv 4)))) de_int (nomark _)) (de_and (de_cmp (op_eqD hr.units) os_eq.op (calD h_simplest_between (hr.mono (by decide)) cld_mono (da_cons (de_tup (da_cons de_int (da_cons de_int da_nil))) (da_cons (de_tup (da_cons de_int (da_cons de_int da_nil))) da_nil))) (de_tup (da_cons de_int (da_cons de_int da_nil))) (nomark _)) (de_and (de_cmp (op_eqD hr.units) os_eq.op (calD h_simplest_between (hr.mono (by decide)) cld_mono (da_cons (de_tup (da_cons de_int (da_cons de_int da_nil))) (da_cons (de_tup (da_cons de_int (da_cons de_int da_nil))) da_nil))) (de_tup (da_cons de_int (da_cons de_int da_nil))) (nomark _)) (de_one (de_cmp (op_eqD hr.units) os_eq.op (calD h_farey_size (hr.mono (by decide)) cld_mono (da_cons de_int da_nil)) de_int (nomark _))))))))))

end
structure Tops (K : PySem.W.Frag) (mg : Str → Option Value) : Prop where
  g : Gl K mg
  d_is_whole : DefAt K mg "is_whole" s_is_whole ["value"]
  d_is_near : DefAt K mg "is_near" s_is_near ["value"]
  d_is_within : DefAt K mg "is_within" s_is_within ["value", "least", "most"]
  d_is_pair : DefAt K mg "is_pair" s_is_pair ["value"]
  d_require_number : DefAt K mg "require_number" s_require_number ["value", "least", "most"]
  d_common_divisor : DefAt K mg "common_divisor" s_common_divisor ["one", "other"]
  d_is_point_in : DefAt K mg "is_point_in" s_is_point_in ["value"]
  d_is_step_in : DefAt K mg "is_step_in" s_is_step_in ["value"]
  d_step_in : DefAt K mg "step_in" s_step_in ["a", "b"]
  d_divisor_in : DefAt K mg "divisor_in" s_divisor_in ["step"]
  d_makers_in : DefAt K mg "makers_in" s_makers_in ["one", "other"]
  d_require_point : DefAt K mg "require_point" s_require_point ["value"]
  d_require_step : DefAt K mg "require_step" s_require_step ["value"]
  d_require_points : DefAt K mg "require_points" s_require_points ["points"]
  d_require_way : DefAt K mg "require_way" s_require_way ["step"]
  d_makers_of_divisor : DefAt K mg "makers_of_divisor" s_makers_of_divisor ["one"]
  d_do_see : DefAt K mg "do_see" s_do_see ["a", "b"]
  d_prime_counts : DefAt K mg "prime_counts" s_prime_counts ["n"]
  d_phi_in : DefAt K mg "phi_in" s_phi_in ["n"]
  d_farey_size_in : DefAt K mg "farey_size_in" s_farey_size_in ["n"]
  d_farey_row_in : DefAt K mg "farey_row_in" s_farey_row_in ["n"]
  d_is_lowest : DefAt K mg "is_lowest" s_is_lowest ["value"]
  d_is_in_row : DefAt K mg "is_in_row" s_is_in_row ["n", "value"]
  d_ahead_in_row : DefAt K mg "ahead_in_row" s_ahead_in_row ["n", "value"]
  d_neighbours_in_row : DefAt K mg "neighbours_in_row" s_neighbours_in_row ["n", "value"]
  d_simplest_in : DefAt K mg "simplest_in" s_simplest_in ["one", "other"]
  d_require_count : DefAt K mg "require_count" s_require_count ["n"]
  d_phi : DefAt K mg "phi" s_phi ["n"]
  d_farey_row : DefAt K mg "farey_row" s_farey_row ["n"]
  d_farey_size : DefAt K mg "farey_size" s_farey_size ["n"]
  d_farey_neighbours : DefAt K mg "farey_neighbours" s_farey_neighbours ["n", "fraction"]
  d_simplest_between : DefAt K mg "simplest_between" s_simplest_between ["one", "other"]
  d__law_dice : DefAt K mg "_law_dice" s__law_dice ["script", "spot"]
  d__law_roll : DefAt K mg "_law_roll" s__law_roll ["dice", "total"]
  d__law_one_of : DefAt K mg "_law_one_of" s__law_one_of ["dice", "items"]
  d__law_common : DefAt K mg "_law_common" s__law_common ["one", "far"]
  d__law_phi : DefAt K mg "_law_phi" s__law_phi ["n"]
  d__law_row_right : DefAt K mg "_law_row_right" s__law_row_right ["n"]
  d__law_undone : DefAt K mg "_law_undone" s__law_undone ["a", "n"]
  d__law_neighbours : DefAt K mg "_law_neighbours" s__law_neighbours ["n", "a", "b"]
  d__law_neighbours_right : DefAt K mg "_law_neighbours_right" s__law_neighbours_right ["dice"]
  d__law_turned : DefAt K mg "_law_turned" s__law_turned ["one", "far"]
  d__law_simplest : DefAt K mg "_law_simplest" s__law_simplest ["one", "far"]
  d__law_simplest_right : DefAt K mg "_law_simplest_right" s__law_simplest_right ["dice"]
  d_law : LawAt K mg "law" s_law "script"
theorem all_law {P : Program} {w : World} {K : PySem.W.Frag} {mg : Str → Option Value} (T : Tops K mg) : ∃ f fd, mg "law" = some (.ref f) ∧ (∀ (s : Shared) (u : Value), BindsTo s fd ⟨[u], []⟩ [("script", u)]) ∧ ∀ base, FnOk P w K mg base CX0 228 f fd ["script"] (spD K C_law) := by
  have h_is_whole := fun base => cal_is_whole (P := P) (w := w) (base := base) T.d_is_whole T.g 
  have h_is_near := fun base => cal_is_near (P := P) (w := w) (base := base) T.d_is_near T.g (h_is_whole base)
  have h_is_within := fun base => cal_is_within (P := P) (w := w) (base := base) T.d_is_within T.g (h_is_whole base)
  have h_is_pair := fun base => cal_is_pair (P := P) (w := w) (base := base) T.d_is_pair T.g 
  have h_require_number := fun base => cal_require_number (P := P) (w := w) (base := base) T.d_require_number T.g (h_is_near base)
  have h_common_divisor := fun base => cal_common_divisor (P := P) (w := w) (base := base) T.d_common_divisor T.g 
  have h_is_point_in := fun base => cal_is_point_in (P := P) (w := w) (base := base) T.d_is_point_in T.g (h_is_pair base) (h_is_within base)
  have h_is_step_in := fun base => cal_is_step_in (P := P) (w := w) (base := base) T.d_is_step_in T.g (h_is_pair base) (h_is_within base)
  have h_step_in := fun base => cal_step_in (P := P) (w := w) (base := base) T.d_step_in T.g 
  have h_divisor_in := fun base => cal_divisor_in (P := P) (w := w) (base := base) T.d_divisor_in T.g 
  have h_makers_in := fun base => cal_makers_in (P := P) (w := w) (base := base) T.d_makers_in T.g 
  have h_require_point := fun base => cal_require_point (P := P) (w := w) (base := base) T.d_require_point T.g (h_is_point_in base)
  have h_require_step := fun base => cal_require_step (P := P) (w := w) (base := base) T.d_require_step T.g (h_is_step_in base)
  have h_require_points := fun base => cal_require_points (P := P) (w := w) (base := base) T.d_require_points T.g (h_require_point base)
  have h_require_way := fun base => cal_require_way (P := P) (w := w) (base := base) T.d_require_way T.g (h_require_step base)
  have h_makers_of_divisor := fun base => cal_makers_of_divisor (P := P) (w := w) (base := base) T.d_makers_of_divisor T.g (h_require_way base) (h_makers_in base)
  have h_do_see := fun base => cal_do_see (P := P) (w := w) (base := base) T.d_do_see T.g (h_require_points base) (h_divisor_in base) (h_step_in base)
  have h_prime_counts := fun base => cal_prime_counts (P := P) (w := w) (base := base) T.d_prime_counts T.g 
  have h_phi_in := fun base => cal_phi_in (P := P) (w := w) (base := base) T.d_phi_in T.g (h_prime_counts base)
  have h_farey_size_in := fun base => cal_farey_size_in (P := P) (w := w) (base := base) T.d_farey_size_in T.g (h_phi_in base)
  have h_farey_row_in := fun base => cal_farey_row_in (P := P) (w := w) (base := base) T.d_farey_row_in T.g 
  have h_is_lowest := fun base => cal_is_lowest (P := P) (w := w) (base := base) T.d_is_lowest T.g (h_is_pair base) (h_is_near base) (h_common_divisor base)
  have h_is_in_row := fun base => cal_is_in_row (P := P) (w := w) (base := base) T.d_is_in_row T.g (h_is_lowest base)
  have h_ahead_in_row := fun base => cal_ahead_in_row (P := P) (w := w) (base := base) T.d_ahead_in_row T.g 
  have h_neighbours_in_row := fun base => cal_neighbours_in_row (P := P) (w := w) (base := base) T.d_neighbours_in_row T.g (h_ahead_in_row base)
  have h_simplest_in := fun base => cal_simplest_in (P := P) (w := w) (base := base) T.d_simplest_in T.g 
  have h_require_count := fun base => cal_require_count (P := P) (w := w) (base := base) T.d_require_count T.g (h_require_number base)
  have h_phi := fun base => cal_phi (P := P) (w := w) (base := base) T.d_phi T.g (h_require_count base) (h_phi_in base)
  have h_farey_row := fun base => cal_farey_row (P := P) (w := w) (base := base) T.d_farey_row T.g (h_require_count base) (h_farey_size_in base) (h_farey_row_in base)
  have h_farey_size := fun base => cal_farey_size (P := P) (w := w) (base := base) T.d_farey_size T.g (h_require_count base) (h_farey_size_in base)
  have h_farey_neighbours := fun base => cal_farey_neighbours (P := P) (w := w) (base := base) T.d_farey_neighbours T.g (h_require_count base) (h_is_in_row base) (h_neighbours_in_row base)
  have h_simplest_between := fun base => cal_simplest_between (P := P) (w := w) (base := base) T.d_simplest_between T.g (h_is_lowest base) (h_simplest_in base)
  have h__law_dice := fun base => cal__law_dice (P := P) (w := w) (base := base) T.d__law_dice T.g 
  have h__law_roll := fun base => cal__law_roll (P := P) (w := w) (base := base) T.d__law_roll T.g 
  have h__law_one_of := fun base => cal__law_one_of (P := P) (w := w) (base := base) T.d__law_one_of T.g (h__law_roll base)
  have h__law_common := fun base => cal__law_common (P := P) (w := w) (base := base) T.d__law_common T.g 
  have h__law_phi := fun base => cal__law_phi (P := P) (w := w) (base := base) T.d__law_phi T.g 
  have h__law_row_right := fun base => cal__law_row_right (P := P) (w := w) (base := base) T.d__law_row_right T.g (h__law_phi base) (h_farey_row base) (h_farey_size base) (h__law_common base) (h_phi base)
  have h__law_undone := fun base => cal__law_undone (P := P) (w := w) (base := base) T.d__law_undone T.g 
  have h__law_neighbours := fun base => cal__law_neighbours (P := P) (w := w) (base := base) T.d__law_neighbours T.g (h__law_undone base)
  have h__law_neighbours_right := fun base => cal__law_neighbours_right (P := P) (w := w) (base := base) T.d__law_neighbours_right T.g (h__law_roll base) (h__law_one_of base) (h__law_common base) (h_farey_neighbours base) (h__law_neighbours base) (h_simplest_between base) (h_do_see base)
  have h__law_turned := fun base => cal__law_turned (P := P) (w := w) (base := base) T.d__law_turned T.g 
  have h__law_simplest := fun base => cal__law_simplest (P := P) (w := w) (base := base) T.d__law_simplest T.g (h__law_turned base)
  have h__law_simplest_right := fun base => cal__law_simplest_right (P := P) (w := w) (base := base) T.d__law_simplest_right T.g (h__law_one_of base) (h__law_roll base) (h__law_common base) (h_simplest_between base) (h__law_simplest base)
  exact law_law T.d_law T.g h__law_dice h__law_row_right h__law_roll h__law_one_of h__law_neighbours_right h__law_simplest_right h_makers_of_divisor h_simplest_between h_farey_size
end Nk07

open PySem PySem.W PyProof.Rows
set_option maxHeartbeats 0 in
theorem PySem.Challenge.cw_gridhulls_k07_whole_rows_of_farey_holds : PySem.Challenge.rw_gridhulls_k07_whole_rows_of_farey.Holds := by
  w_on; o_law; k_head; (case hw => w_witness2)
  k_fill
  refine DL.walk_d (n := 63) (l := PySem.Challenge.rw_gridhulls_k07_whole_rows_of_farey) (C := Nk07.C_law) (k := 228) (x := "script") rfl (by decide) rfl ⟨rfl, by decide, by decide⟩ DL.cld_mono Nk07.law_true (fun w h Y => PySem.W.kIn_of Y) ?F
  case F =>
    intro w mg h KX G XX
    refine' Nk07.all_law ?T
    refine' { g := ?g, d_is_whole := ?d_is_whole, d_is_near := ?d_is_near, d_is_within := ?d_is_within, d_is_pair := ?d_is_pair, d_require_number := ?d_require_number, d_common_divisor := ?d_common_divisor, d_is_point_in := ?d_is_point_in, d_is_step_in := ?d_is_step_in, d_step_in := ?d_step_in, d_divisor_in := ?d_divisor_in, d_makers_in := ?d_makers_in, d_require_point := ?d_require_point, d_require_step := ?d_require_step, d_require_points := ?d_require_points, d_require_way := ?d_require_way, d_makers_of_divisor := ?d_makers_of_divisor, d_do_see := ?d_do_see, d_prime_counts := ?d_prime_counts, d_phi_in := ?d_phi_in, d_farey_size_in := ?d_farey_size_in, d_farey_row_in := ?d_farey_row_in, d_is_lowest := ?d_is_lowest, d_is_in_row := ?d_is_in_row, d_ahead_in_row := ?d_ahead_in_row, d_neighbours_in_row := ?d_neighbours_in_row, d_simplest_in := ?d_simplest_in, d_require_count := ?d_require_count, d_phi := ?d_phi, d_farey_row := ?d_farey_row, d_farey_size := ?d_farey_size, d_farey_neighbours := ?d_farey_neighbours, d_simplest_between := ?d_simplest_between, d__law_dice := ?d__law_dice, d__law_roll := ?d__law_roll, d__law_one_of := ?d__law_one_of, d__law_common := ?d__law_common, d__law_phi := ?d__law_phi, d__law_row_right := ?d__law_row_right, d__law_undone := ?d__law_undone, d__law_neighbours := ?d__law_neighbours, d__law_neighbours_right := ?d__law_neighbours_right, d__law_turned := ?d__law_turned, d__law_simplest := ?d__law_simplest, d__law_simplest_right := ?d__law_simplest_right, d_law := ?d_law }
    case g =>
      refine' { c_FAR := ?c_FAR, c_MOST_LISTED := ?c_MOST_LISTED, c_MOST_NUMBER := ?c_MOST_NUMBER, c_MOST_PLACE := ?c_MOST_PLACE, c_MOST_STEP := ?c_MOST_STEP, c_PAIR_SIZE := ?c_PAIR_SIZE, n_abs := ?n_abs, n_all := ?n_all, n_bool := ?n_bool, n_int := ?n_int, n_isinstance := ?n_isinstance, n_len := ?n_len, n_max := ?n_max, n_min := ?n_min, n_range := ?n_range, n_sum := ?n_sum, n_tuple := ?n_tuple, n_zip := ?n_zip }
      case c_FAR => exact DL.gc_far XX (by simp)
      case c_MOST_LISTED => refine' DL.gc_int KX G ?a; (case a => k_is)
      case c_MOST_NUMBER => refine' DL.gc_int KX G ?a; (case a => k_is)
      case c_MOST_PLACE => refine' DL.gc_int KX G ?a; (case a => k_is)
      case c_MOST_STEP => refine' DL.gc_int KX G ?a; (case a => k_is)
      case c_PAIR_SIZE => refine' DL.gc_int KX G ?a; (case a => k_is)
      case n_abs => refine' PySem.W.mg_none_of KX G ?a; (case a => k_is)
      case n_all => refine' PySem.W.mg_none_of KX G ?a; (case a => k_is)
      case n_bool => refine' PySem.W.mg_none_of KX G ?a; (case a => k_is)
      case n_int => refine' PySem.W.mg_none_of KX G ?a; (case a => k_is)
      case n_isinstance => refine' PySem.W.mg_none_of KX G ?a; (case a => k_is)
      case n_len => refine' PySem.W.mg_none_of KX G ?a; (case a => k_is)
      case n_max => refine' PySem.W.mg_none_of KX G ?a; (case a => k_is)
      case n_min => refine' PySem.W.mg_none_of KX G ?a; (case a => k_is)
      case n_range => refine' PySem.W.mg_none_of KX G ?a; (case a => k_is)
      case n_sum => refine' PySem.W.mg_none_of KX G ?a; (case a => k_is)
      case n_tuple => refine' PySem.W.mg_none_of KX G ?a; (case a => k_is)
      case n_zip => refine' PySem.W.mg_none_of KX G ?a; (case a => k_is)
    case d_is_whole => refine' DL.defAt_mk KX G (fun _ _ _ _ _ _ us hl => match us, hl with | [_], _ => rfl) ?a ?l ?c ?k; (case a => k_is); (case l => k_is); (case c => k_is); (case k => k_is)
    case d_is_near => refine' DL.defAt_mk KX G (fun _ _ _ _ _ _ us hl => match us, hl with | [_], _ => rfl) ?a ?l ?c ?k; (case a => k_is); (case l => k_is); (case c => k_is); (case k => k_is)
    case d_is_within => refine' DL.defAt_mk KX G (fun _ _ _ _ _ _ us hl => match us, hl with | [_, _, _], _ => rfl) ?a ?l ?c ?k; (case a => k_is); (case l => k_is); (case c => k_is); (case k => k_is)
    case d_is_pair => refine' DL.defAt_mk KX G (fun _ _ _ _ _ _ us hl => match us, hl with | [_], _ => rfl) ?a ?l ?c ?k; (case a => k_is); (case l => k_is); (case c => k_is); (case k => k_is)
    case d_require_number => refine' DL.defAt_mk KX G (fun _ _ _ _ _ _ us hl => match us, hl with | [_, _, _], _ => rfl) ?a ?l ?c ?k; (case a => k_is); (case l => k_is); (case c => k_is); (case k => k_is)
    case d_common_divisor => refine' DL.defAt_mk KX G (fun _ _ _ _ _ _ us hl => match us, hl with | [_, _], _ => rfl) ?a ?l ?c ?k; (case a => k_is); (case l => k_is); (case c => k_is); (case k => k_is)
    case d_is_point_in => refine' DL.defAt_mk KX G (fun _ _ _ _ _ _ us hl => match us, hl with | [_], _ => rfl) ?a ?l ?c ?k; (case a => k_is); (case l => k_is); (case c => k_is); (case k => k_is)
    case d_is_step_in => refine' DL.defAt_mk KX G (fun _ _ _ _ _ _ us hl => match us, hl with | [_], _ => rfl) ?a ?l ?c ?k; (case a => k_is); (case l => k_is); (case c => k_is); (case k => k_is)
    case d_step_in => refine' DL.defAt_mk KX G (fun _ _ _ _ _ _ us hl => match us, hl with | [_, _], _ => rfl) ?a ?l ?c ?k; (case a => k_is); (case l => k_is); (case c => k_is); (case k => k_is)
    case d_divisor_in => refine' DL.defAt_mk KX G (fun _ _ _ _ _ _ us hl => match us, hl with | [_], _ => rfl) ?a ?l ?c ?k; (case a => k_is); (case l => k_is); (case c => k_is); (case k => k_is)
    case d_makers_in => refine' DL.defAt_mk KX G (fun _ _ _ _ _ _ us hl => match us, hl with | [_, _], _ => rfl) ?a ?l ?c ?k; (case a => k_is); (case l => k_is); (case c => k_is); (case k => k_is)
    case d_require_point => refine' DL.defAt_mk KX G (fun _ _ _ _ _ _ us hl => match us, hl with | [_], _ => rfl) ?a ?l ?c ?k; (case a => k_is); (case l => k_is); (case c => k_is); (case k => k_is)
    case d_require_step => refine' DL.defAt_mk KX G (fun _ _ _ _ _ _ us hl => match us, hl with | [_], _ => rfl) ?a ?l ?c ?k; (case a => k_is); (case l => k_is); (case c => k_is); (case k => k_is)
    case d_require_points => refine' DL.defAt_mk KX G (fun _ _ _ _ _ _ us hl => match us, hl with | [_], _ => rfl) ?a ?l ?c ?k; (case a => k_is); (case l => k_is); (case c => k_is); (case k => k_is)
    case d_require_way => refine' DL.defAt_mk KX G (fun _ _ _ _ _ _ us hl => match us, hl with | [_], _ => rfl) ?a ?l ?c ?k; (case a => k_is); (case l => k_is); (case c => k_is); (case k => k_is)
    case d_makers_of_divisor => refine' DL.defAt_mk KX G (fun _ _ _ _ _ _ us hl => match us, hl with | [_], _ => rfl) ?a ?l ?c ?k; (case a => k_is); (case l => k_is); (case c => k_is); (case k => k_is)
    case d_do_see => refine' DL.defAt_mk KX G (fun _ _ _ _ _ _ us hl => match us, hl with | [_, _], _ => rfl) ?a ?l ?c ?k; (case a => k_is); (case l => k_is); (case c => k_is); (case k => k_is)
    case d_prime_counts => refine' DL.defAt_mk KX G (fun _ _ _ _ _ _ us hl => match us, hl with | [_], _ => rfl) ?a ?l ?c ?k; (case a => k_is); (case l => k_is); (case c => k_is); (case k => k_is)
    case d_phi_in => refine' DL.defAt_mk KX G (fun _ _ _ _ _ _ us hl => match us, hl with | [_], _ => rfl) ?a ?l ?c ?k; (case a => k_is); (case l => k_is); (case c => k_is); (case k => k_is)
    case d_farey_size_in => refine' DL.defAt_mk KX G (fun _ _ _ _ _ _ us hl => match us, hl with | [_], _ => rfl) ?a ?l ?c ?k; (case a => k_is); (case l => k_is); (case c => k_is); (case k => k_is)
    case d_farey_row_in => refine' DL.defAt_mk KX G (fun _ _ _ _ _ _ us hl => match us, hl with | [_], _ => rfl) ?a ?l ?c ?k; (case a => k_is); (case l => k_is); (case c => k_is); (case k => k_is)
    case d_is_lowest => refine' DL.defAt_mk KX G (fun _ _ _ _ _ _ us hl => match us, hl with | [_], _ => rfl) ?a ?l ?c ?k; (case a => k_is); (case l => k_is); (case c => k_is); (case k => k_is)
    case d_is_in_row => refine' DL.defAt_mk KX G (fun _ _ _ _ _ _ us hl => match us, hl with | [_, _], _ => rfl) ?a ?l ?c ?k; (case a => k_is); (case l => k_is); (case c => k_is); (case k => k_is)
    case d_ahead_in_row => refine' DL.defAt_mk KX G (fun _ _ _ _ _ _ us hl => match us, hl with | [_, _], _ => rfl) ?a ?l ?c ?k; (case a => k_is); (case l => k_is); (case c => k_is); (case k => k_is)
    case d_neighbours_in_row => refine' DL.defAt_mk KX G (fun _ _ _ _ _ _ us hl => match us, hl with | [_, _], _ => rfl) ?a ?l ?c ?k; (case a => k_is); (case l => k_is); (case c => k_is); (case k => k_is)
    case d_simplest_in => refine' DL.defAt_mk KX G (fun _ _ _ _ _ _ us hl => match us, hl with | [_, _], _ => rfl) ?a ?l ?c ?k; (case a => k_is); (case l => k_is); (case c => k_is); (case k => k_is)
    case d_require_count => refine' DL.defAt_mk KX G (fun _ _ _ _ _ _ us hl => match us, hl with | [_], _ => rfl) ?a ?l ?c ?k; (case a => k_is); (case l => k_is); (case c => k_is); (case k => k_is)
    case d_phi => refine' DL.defAt_mk KX G (fun _ _ _ _ _ _ us hl => match us, hl with | [_], _ => rfl) ?a ?l ?c ?k; (case a => k_is); (case l => k_is); (case c => k_is); (case k => k_is)
    case d_farey_row => refine' DL.defAt_mk KX G (fun _ _ _ _ _ _ us hl => match us, hl with | [_], _ => rfl) ?a ?l ?c ?k; (case a => k_is); (case l => k_is); (case c => k_is); (case k => k_is)
    case d_farey_size => refine' DL.defAt_mk KX G (fun _ _ _ _ _ _ us hl => match us, hl with | [_], _ => rfl) ?a ?l ?c ?k; (case a => k_is); (case l => k_is); (case c => k_is); (case k => k_is)
    case d_farey_neighbours => refine' DL.defAt_mk KX G (fun _ _ _ _ _ _ us hl => match us, hl with | [_, _], _ => rfl) ?a ?l ?c ?k; (case a => k_is); (case l => k_is); (case c => k_is); (case k => k_is)
    case d_simplest_between => refine' DL.defAt_mk KX G (fun _ _ _ _ _ _ us hl => match us, hl with | [_, _], _ => rfl) ?a ?l ?c ?k; (case a => k_is); (case l => k_is); (case c => k_is); (case k => k_is)
    case d__law_dice => refine' DL.defAt_mk KX G (fun _ _ _ _ _ _ us hl => match us, hl with | [_, _], _ => rfl) ?a ?l ?c ?k; (case a => k_is); (case l => k_is); (case c => k_is); (case k => k_is)
    case d__law_roll => refine' DL.defAt_mk KX G (fun _ _ _ _ _ _ us hl => match us, hl with | [_, _], _ => rfl) ?a ?l ?c ?k; (case a => k_is); (case l => k_is); (case c => k_is); (case k => k_is)
    case d__law_one_of => refine' DL.defAt_mk KX G (fun _ _ _ _ _ _ us hl => match us, hl with | [_, _], _ => rfl) ?a ?l ?c ?k; (case a => k_is); (case l => k_is); (case c => k_is); (case k => k_is)
    case d__law_common => refine' DL.defAt_mk KX G (fun _ _ _ _ _ _ us hl => match us, hl with | [_, _], _ => rfl) ?a ?l ?c ?k; (case a => k_is); (case l => k_is); (case c => k_is); (case k => k_is)
    case d__law_phi => refine' DL.defAt_mk KX G (fun _ _ _ _ _ _ us hl => match us, hl with | [_], _ => rfl) ?a ?l ?c ?k; (case a => k_is); (case l => k_is); (case c => k_is); (case k => k_is)
    case d__law_row_right => refine' DL.defAt_mk KX G (fun _ _ _ _ _ _ us hl => match us, hl with | [_], _ => rfl) ?a ?l ?c ?k; (case a => k_is); (case l => k_is); (case c => k_is); (case k => k_is)
    case d__law_undone => refine' DL.defAt_mk KX G (fun _ _ _ _ _ _ us hl => match us, hl with | [_, _], _ => rfl) ?a ?l ?c ?k; (case a => k_is); (case l => k_is); (case c => k_is); (case k => k_is)
    case d__law_neighbours => refine' DL.defAt_mk KX G (fun _ _ _ _ _ _ us hl => match us, hl with | [_, _, _], _ => rfl) ?a ?l ?c ?k; (case a => k_is); (case l => k_is); (case c => k_is); (case k => k_is)
    case d__law_neighbours_right => refine' DL.defAt_mk KX G (fun _ _ _ _ _ _ us hl => match us, hl with | [_], _ => rfl) ?a ?l ?c ?k; (case a => k_is); (case l => k_is); (case c => k_is); (case k => k_is)
    case d__law_turned => refine' DL.defAt_mk KX G (fun _ _ _ _ _ _ us hl => match us, hl with | [_, _], _ => rfl) ?a ?l ?c ?k; (case a => k_is); (case l => k_is); (case c => k_is); (case k => k_is)
    case d__law_simplest => refine' DL.defAt_mk KX G (fun _ _ _ _ _ _ us hl => match us, hl with | [_, _], _ => rfl) ?a ?l ?c ?k; (case a => k_is); (case l => k_is); (case c => k_is); (case k => k_is)
    case d__law_simplest_right => refine' DL.defAt_mk KX G (fun _ _ _ _ _ _ us hl => match us, hl with | [_], _ => rfl) ?a ?l ?c ?k; (case a => k_is); (case l => k_is); (case c => k_is); (case k => k_is)
    case d_law => refine' DL.lawAt_mk KX G (fun _ _ _ _ _ _ _ => rfl) ?a ?l ?c ?k; (case a => k_is); (case l => k_is); (case c => k_is); (case k => k_is)
