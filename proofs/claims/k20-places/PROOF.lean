import PyProof.Rows.All
import Wide.All
import OpenK.AllK
import Wide.FinOn
import HandS.ForMost
import HandS.IsInst
import HandS.TupAny
import HandS.TupMul
import HandS.Zip
import HandS.Style
import HandS.Wide
import HandS.Conv
import KE.DataMinMax
import KE.GoesMore
import HandS.Ends
import KE.SortData
import KE.LtData
import PySem.Challenge.RW_payingpit_k20_whole_worths_through_place
/-! # PvA -/
set_option Elab.async false
set_option linter.all false
/-! values as plain data, what a heap bears of them, who may still change what -/
namespace Pv
open PySem L2

inductive D where
  | non | bl (b : Bool) | int (i : Int) | str (s : Str)
  | tup (l : List D) | lst (l : List D) | own (l : List D) | cell (c : Nat)
  /-- the script -/
  | scr (l : List Int)

mutual
def D.fz : D → D
  | .own l => .lst (D.fzs l)
  | .tup l => .tup (D.fzs l)
  | .non => .non | .bl b => .bl b | .int i => .int i | .str s => .str s | .lst l => .lst l | .cell c => .cell c | .scr l => .scr l
def D.fzs : List D → List D
  | [] => []
  | d :: l => d.fz :: D.fzs l
end

/-- a list that stands still | a tuple | the script -/
def LR (M : Addr → Prop) (H : Hp) (p : Addr) (xs : List V) : Prop := H p = some (.lst xs) ∧ ¬ M p
def TR (K : PySem.W.Frag) (M : Addr → Prop) (H : Hp) (p : Addr) (xs : List V) : Prop := (H p = some (.tup xs) ∧ ¬ M p) ∨ ∀ H', SqT K H' p xs
def ZR (K : PySem.W.Frag) (M : Addr → Prop) (H : Hp) (p : Addr) (xs : List V) : Prop := (Rd H p (.lst xs) ∧ ¬ M p) ∨ ∀ H', SqL K H' p xs

mutual
inductive RV (K : PySem.W.Frag) (C : List Addr) (M : Addr → Prop) (H : Hp) : V → D → List Addr → Prop
  | non : RV K C M H .non .non []
  | bl (b : Bool) : RV K C M H (.bl b) (.bl b) []
  | int (i : Int) : RV K C M H (.int i) (.int i) []
  | str (s : Str) : RV K C M H (.str s) (.str s) []
  | tup {p : Addr} {xs : List V} {ds : List D} {os : List Addr} : TR K M H p xs → RVs K C M H xs ds os → RV K C M H (.ref p) (.tup ds) os
  | lst {p : Addr} {xs : List V} {ds : List D} : LR M H p xs → RVs K C M H xs ds [] → RV K C M H (.ref p) (.lst ds) []
  | own {p : Addr} {xs : List V} {ds : List D} {os : List Addr} : H p = some (.lst xs) → RVs K C M H xs ds os → RV K C M H (.ref p) (.own ds) (p :: os)
  | cell {p : Addr} {c : Nat} : C[c]? = some p → RV K C M H (.ref p) (.cell c) []
  | scr {p : Addr} {ns : List Int} : ZR K M H p (ns.map V.int) → RV K C M H (.ref p) (.scr ns) []
inductive RVs (K : PySem.W.Frag) (C : List Addr) (M : Addr → Prop) (H : Hp) : List V → List D → List Addr → Prop
  | nil : RVs K C M H [] [] []
  | cons {v : V} {vs : List V} {d : D} {ds : List D} {o1 o2 : List Addr} : RV K C M H v d o1 → RVs K C M H vs ds o2 → RVs K C M H (v :: vs) (d :: ds) (o1 ++ o2)
end

section
variable {K : PySem.W.Frag} {C C' : List Addr} {M M' : Addr → Prop} {H H' : Hp}
theorem rd_keep {p : Addr} {u : HO} (k : ∀ a o, ¬ M a → H a = some o → H' a = some o) (n : ¬ M p) (h : Rd H p u) : Rd H' p u := by
  rcases h with h | ⟨o, h⟩
  · exact .inl (k _ _ n h)
  · exact .inr ⟨o, k _ _ n h⟩
theorem rd_trk {p : Addr} {u : HO} (h : Rd H p u) : ∃ o, H p = some o := by
  rcases h with h | ⟨o, h⟩ <;> exact ⟨_, h⟩
theorem LR.mono {p : Addr} {xs : List V} (k : ∀ a o, ¬ M a → H a = some o → H' a = some o) (n : ∀ a o, ¬ M a → H a = some o → ¬ M' a) (h : LR M H p xs) : LR M' H' p xs := ⟨k _ _ h.2 h.1, n _ _ h.2 h.1⟩
theorem TR.mono {p : Addr} {xs : List V} (k : ∀ a o, ¬ M a → H a = some o → H' a = some o) (n : ∀ a o, ¬ M a → H a = some o → ¬ M' a) (h : TR K M H p xs) : TR K M' H' p xs := by
  rcases h with ⟨h, hm⟩ | h
  · exact .inl ⟨k _ _ hm h, n _ _ hm h⟩
  · exact .inr h
theorem ZR.mono {p : Addr} {xs : List V} (k : ∀ a o, ¬ M a → H a = some o → H' a = some o) (n : ∀ a o, ¬ M a → H a = some o → ¬ M' a) (h : ZR K M H p xs) : ZR K M' H' p xs := by
  rcases h with ⟨h, hm⟩ | h
  · obtain ⟨o, e⟩ := rd_trk h
    exact .inl ⟨rd_keep k hm h, n _ _ hm e⟩
  · exact .inr h
mutual
theorem RV.mono (hc : ∀ (c : Nat) (p : Addr), C[c]? = some p → C'[c]? = some p) (k : ∀ a o, ¬ M a → H a = some o → H' a = some o) (n : ∀ a o, ¬ M a → H a = some o → ¬ M' a) :
    ∀ {v : V} {d : D} {os : List Addr}, RV K C M H v d os → (∀ a ∈ os, ∀ o, H a = some o → H' a = some o) → RV K C' M' H' v d os
  | _, _, _, .non, _ => .non
  | _, _, _, .bl b, _ => .bl b
  | _, _, _, .int i, _ => .int i
  | _, _, _, .str s, _ => .str s
  | _, _, _, .tup h r, q => .tup (h.mono k n) (r.mono hc k n q)
  | _, _, _, .lst h r, _ => .lst (h.mono k n) (r.mono hc k n fun _ z => nomatch z)
  | _, _, _, .own h r, q => .own (q _ (List.mem_cons_self ..) _ h) (r.mono hc k n fun a ha => q a (List.mem_cons_of_mem _ ha))
  | _, _, _, .cell h, _ => .cell (hc _ _ h)
  | _, _, _, .scr h, _ => .scr (h.mono k n)
theorem RVs.mono (hc : ∀ (c : Nat) (p : Addr), C[c]? = some p → C'[c]? = some p) (k : ∀ a o, ¬ M a → H a = some o → H' a = some o) (n : ∀ a o, ¬ M a → H a = some o → ¬ M' a) :
    ∀ {vs : List V} {ds : List D} {os : List Addr}, RVs K C M H vs ds os → (∀ a ∈ os, ∀ o, H a = some o → H' a = some o) → RVs K C' M' H' vs ds os
  | _, _, _, .nil, _ => .nil
  | _, _, _, .cons h r, q => .cons (h.mono hc k n fun a ha => q a (List.mem_append_left _ ha)) (r.mono hc k n fun a ha => q a (List.mem_append_right _ ha))
end
mutual
theorem RV.fz (n : ∀ a, ¬ M a → ¬ M' a) : ∀ {v : V} {d : D} {os : List Addr}, RV K C M H v d os → (∀ a ∈ os, ¬ M' a) → RV K C M' H v d.fz []
  | _, _, _, .non, _ => by simp only [D.fz]; exact .non
  | _, _, _, .bl b, _ => by simp only [D.fz]; exact .bl b
  | _, _, _, .int i, _ => by simp only [D.fz]; exact .int i
  | _, _, _, .str s, _ => by simp only [D.fz]; exact .str s
  | _, _, _, .tup h r, q => by simp only [D.fz]; exact .tup (h.mono (fun _ _ _ e => e) fun a _ z _ => n a z) (r.fz n q)
  | _, _, _, .lst h r, _ => by simp only [D.fz]; exact .lst (h.mono (fun _ _ _ e => e) fun a _ z _ => n a z) (r.mono (fun _ _ e => e) (fun _ _ _ e => e) (fun a _ z _ => n a z) fun _ z => nomatch z)
  | _, _, _, .own h r, q => by simp only [D.fz]; exact .lst ⟨h, q _ (List.mem_cons_self ..)⟩ (r.fz n fun a ha => q a (List.mem_cons_of_mem _ ha))
  | _, _, _, .cell h, _ => by simp only [D.fz]; exact .cell h
  | _, _, _, .scr h, _ => by simp only [D.fz]; exact .scr (h.mono (fun _ _ _ e => e) fun a _ z _ => n a z)
theorem RVs.fz (n : ∀ a, ¬ M a → ¬ M' a) : ∀ {vs : List V} {ds : List D} {os : List Addr}, RVs K C M H vs ds os → (∀ a ∈ os, ¬ M' a) → RVs K C M' H vs (D.fzs ds) []
  | _, _, _, .nil, _ => by simp only [D.fzs]; exact .nil
  | _, _, _, .cons h r, q => by
    simp only [D.fzs]
    exact RVs.cons (o1 := []) (o2 := []) (h.fz n fun a ha => q a (List.mem_append_left _ ha)) (r.fz n fun a ha => q a (List.mem_append_right _ ha))
end
mutual
theorem RV.otr : ∀ {v : V} {d : D} {os : List Addr}, RV K C M H v d os → ∀ a ∈ os, ∃ o, H a = some o
  | _, _, _, .non, _, h => nomatch h
  | _, _, _, .bl b, _, h => nomatch h
  | _, _, _, .int i, _, h => nomatch h
  | _, _, _, .str s, _, h => nomatch h
  | _, _, _, .tup _ r, a, h => r.otr a h
  | _, _, _, .lst _ _, _, h => nomatch h
  | _, _, _, .own e r, a, h => by
    rcases List.mem_cons.mp h with z | z
    · subst z
      exact ⟨_, e⟩
    · exact r.otr a z
  | _, _, _, .cell _, _, h => nomatch h
  | _, _, _, .scr _, _, h => nomatch h
theorem RVs.otr : ∀ {vs : List V} {ds : List D} {os : List Addr}, RVs K C M H vs ds os → ∀ a ∈ os, ∃ o, H a = some o
  | _, _, _, .nil, _, h => nomatch h
  | _, _, _, .cons r s, a, h => by
    rcases List.mem_append.mp h with z | z
    · exact r.otr a z
    · exact s.otr a z
end
theorem RVs.len : ∀ {vs : List V} {ds : List D} {os : List Addr}, RVs K C M H vs ds os → vs.length = ds.length
  | _, _, _, .nil => rfl
  | _, _, _, .cons _ r => by rw [List.length_cons, List.length_cons, r.len]
theorem RVs.app : ∀ {vs us : List V} {ds es : List D} {os ps : List Addr}, RVs K C M H vs ds os → RVs K C M H us es ps → RVs K C M H (vs ++ us) (ds ++ es) (os ++ ps)
  | _, _, _, _, _, _, .nil, s => s
  | _, _, _, _, _, _, .cons h r, s => by
    rw [List.append_assoc]
    exact .cons h (r.app s)
theorem RVs.one {v : V} {d : D} {os : List Addr} (h : RV K C M H v d os) : RVs K C M H [v] [d] os := by
  have q := RVs.cons h RVs.nil
  rw [List.append_nil] at q
  exact q
theorem RVs.get : ∀ {vs : List V} {ds : List D} {os : List Addr}, RVs K C M H vs ds os → ∀ {i : Nat} {d : D}, ds[i]? = some d → ∃ v o, vs[i]? = some v ∧ RV K C M H v d o ∧ ∀ a ∈ o, a ∈ os
  | _, _, _, .nil, i, d, e => by simp at e
  | _, _, _, .cons h r, 0, d, e => by
    simp only [List.getElem?_cons_zero, Option.some.injEq] at e
    subst e
    exact ⟨_, _, rfl, h, fun a ha => List.mem_append_left _ ha⟩
  | _, _, _, .cons h r, i + 1, d, e => by
    simp only [List.getElem?_cons_succ] at e
    obtain ⟨v, o, e1, q, w⟩ := r.get e
    exact ⟨v, o, by simpa using e1, q, fun a ha => List.mem_append_right _ (w a ha)⟩
theorem nil_of {os : List Addr} (h : ∀ a ∈ os, a ∈ ([] : List Addr)) : os = [] := List.eq_nil_iff_forall_not_mem.mpr fun a ha => nomatch h a ha
theorem RVs.get0 {vs : List V} {ds : List D} {i : Nat} {d : D} (h : RVs K C M H vs ds []) (e : ds[i]? = some d) : ∃ v, vs[i]? = some v ∧ RV K C M H v d [] := by
  obtain ⟨v, o, e1, q, w⟩ := h.get e
  obtain rfl := nil_of w
  exact ⟨v, e1, q⟩
theorem RVs.take0 : ∀ {vs : List V} {ds : List D} {os : List Addr} (n : Nat), RVs K C M H vs ds os → os = [] → RVs K C M H (vs.take n) (ds.take n) []
  | _, _, _, 0, _, _ => .nil
  | _, _, _, n + 1, .nil, _ => .nil
  | _, _, _, n + 1, .cons h r, e => by
    obtain ⟨e1, e2⟩ := List.append_eq_nil_iff.mp e
    subst e1 e2
    exact RVs.cons (o1 := []) (o2 := []) h (r.take0 n rfl)
theorem RVs.drop0 : ∀ {vs : List V} {ds : List D} {os : List Addr} (n : Nat), RVs K C M H vs ds os → os = [] → RVs K C M H (vs.drop n) (ds.drop n) []
  | _, _, _, 0, r, e => e ▸ r
  | _, _, _, n + 1, .nil, _ => .nil
  | _, _, _, n + 1, .cons h r, e => by
    obtain ⟨e1, e2⟩ := List.append_eq_nil_iff.mp e
    subst e1 e2
    exact r.drop0 n rfl
theorem RVs.set0 {v : V} {d : D} (q : RV K C M H v d []) : ∀ {vs : List V} {ds : List D} {os : List Addr} (n : Nat), RVs K C M H vs ds os → os = [] → RVs K C M H (vs.set n v) (ds.set n d) []
  | _, _, _, _, .nil, _ => .nil
  | _, _, _, 0, .cons h r, e => by
    obtain ⟨e1, e2⟩ := List.append_eq_nil_iff.mp e
    subst e1 e2
    exact RVs.cons (o1 := []) (o2 := []) q r
  | _, _, _, n + 1, .cons h r, e => by
    obtain ⟨e1, e2⟩ := List.append_eq_nil_iff.mp e
    subst e1 e2
    exact RVs.cons (o1 := []) (o2 := []) h (RVs.set0 q n r rfl)
theorem RVs.cons0 {v : V} {vs : List V} {d : D} {ds : List D} (h : RV K C M H v d []) (r : RVs K C M H vs ds []) : RVs K C M H (v :: vs) (d :: ds) [] := RVs.cons (o1 := []) (o2 := []) h r
theorem RVs.app0 {vs us : List V} {ds es : List D} (h : RVs K C M H vs ds []) (r : RVs K C M H us es []) : RVs K C M H (vs ++ us) (ds ++ es) [] := h.app r
theorem RVs.ints : ∀ (ns : List Int), RVs K C M H (ns.map V.int) (ns.map D.int) []
  | [] => .nil
  | n :: r => RVs.cons0 (.int n) (RVs.ints r)
end

/-! ### the frame -/
abbrev Env := List (Option D)
abbrev Ms := List (List D)
/-- the cells: lists that callees may change; what they hold is free of cells and stands still -/
structure CI (K : PySem.W.Frag) (C : List Addr) (M : Addr → Prop) (H : Hp) (st : Ms) : Prop where
  len : st.length = C.length
  at_ : ∀ (i : Nat) (ds : List D) (p : Addr), st[i]? = some ds → C[i]? = some p → ∃ xs, H p = some (.lst xs) ∧ RVs K [] M H xs ds []
  nd : C.Nodup
  mC : ∀ p ∈ C, M p
  tr : ∀ p, M p → ∃ o, H p = some o
inductive RSl (K : PySem.W.Frag) (C : List Addr) (M : Addr → Prop) (H : Hp) : L2.St → Env → List Addr → Prop
  | nil : RSl K C M H [] [] []
  | no {x : Option V} {σ : L2.St} {env : Env} {O : List Addr} : RSl K C M H σ env O → RSl K C M H (x :: σ) (none :: env) O
  | so {v : V} {d : D} {σ : L2.St} {env : Env} {o O : List Addr} : RV K C M H v d o → RSl K C M H σ env O → RSl K C M H (some v :: σ) (some d :: env) (o ++ O)
structure FI (K : PySem.W.Frag) (C O : List Addr) (M : Addr → Prop) (H : Hp) (σ : L2.St) (env : Env) (st : Ms) : Prop where
  ci : CI K C M H st
  sl : RSl K C M H σ env O
  od : O.Nodup
  oc : ∀ a ∈ O, a ∉ C
  mO : ∀ a ∈ O, M a
/-- from one state to a later one; w: what the frame owns may be written, else the cells at C alone -/
structure Go (w : Prop) (C O : List Addr) (M : Addr → Prop) (H : Hp) (C' O' : List Addr) (M' : Addr → Prop) (H' : Hp) : Prop where
  keep : ∀ a o, a ∉ C → (w → a ∉ O) → H a = some o → H' a = some o
  pre : ∃ C1, C' = C ++ C1
  newc : ∀ a ∈ C', a ∈ C ∨ (w ∧ a ∈ O) ∨ H a = none
  fresh : ∀ a, M' a → M a ∨ H a = none
  forn : ∀ a, M a → a ∉ O → M' a
  ownd : ∀ a ∈ O', a ∈ O ∨ H a = none
  back : ∀ a, H' a = none → H a = none
section
variable {K : PySem.W.Frag} {C C' C'' O O' O'' : List Addr} {M M' M'' : Addr → Prop} {H H' H'' : Hp} {w : Prop} {st st' : Ms} {σ : L2.St} {env env' : Env}
theorem Go.refl : Go w C O M H C O M H := ⟨fun _ _ _ _ e => e, ⟨[], (List.append_nil C).symm⟩, fun _ h => .inl h, fun _ h => .inl h, fun _ h _ => h, fun _ h => .inl h, fun _ h => h⟩
theorem Go.weak (g : Go False C O M H C' O' M' H') : Go w C O M H C' O' M' H' := ⟨fun a o h1 _ e => g.keep a o h1 (fun z => z.elim) e, g.pre, fun a h => (g.newc a h).imp id fun z => .inr (z.elim (fun y => y.1.elim) id), g.fresh, g.forn, g.ownd, g.back⟩
theorem Go.newc0 (g : Go False C O M H C' O' M' H') : ∀ a ∈ C', a ∈ C ∨ H a = none := fun a h => (g.newc a h).imp id fun z => z.elim (fun y => y.1.elim) id
theorem Go.trans (t : ∀ p, M p → ∃ o, H p = some o) (g : Go w C O M H C' O' M' H') (g' : Go w C' O' M' H' C'' O'' M'' H'') : Go w C O M H C'' O'' M'' H'' where
  keep := fun a o h1 h2 e => by
    refine g'.keep a o (fun z => ?_) (fun hw z => ?_) (g.keep a o h1 h2 e)
    · rcases g.newc a z with z | ⟨y, z⟩ | z
      · exact h1 z
      · exact h2 y z
      · rw [e] at z; cases z
    · rcases g.ownd a z with z | z
      · exact h2 hw z
      · rw [e] at z; cases z
  pre := by
    obtain ⟨C1, e1⟩ := g.pre
    obtain ⟨C2, e2⟩ := g'.pre
    exact ⟨C1 ++ C2, by rw [e2, e1, List.append_assoc]⟩
  newc := fun a h => by
    rcases g'.newc a h with z | ⟨y, z⟩ | z
    · exact g.newc a z
    · rcases g.ownd a z with z | z
      · exact .inr (.inl ⟨y, z⟩)
      · exact .inr (.inr z)
    · exact .inr (.inr (g.back a z))
  fresh := fun a h => by
    rcases g'.fresh a h with z | z
    · exact g.fresh a z
    · exact .inr (g.back a z)
  forn := fun a h n => by
    refine g'.forn a (g.forn a h n) fun z => ?_
    rcases g.ownd a z with z | z
    · exact n z
    · obtain ⟨o, e⟩ := t a h
      rw [e] at z; cases z
  ownd := fun a h => by
    rcases g'.ownd a h with z | z
    · exact g.ownd a z
    · exact .inr (g.back a z)
  back := fun a h => g.back a (g'.back a h)
theorem Go.cat (g : Go w C O M H C' O' M' H') : ∀ (c : Nat) (p : Addr), C[c]? = some p → C'[c]? = some p := fun c p e => by
  obtain ⟨C1, q⟩ := g.pre
  rw [q, List.getElem?_append_left (List.getElem?_eq_some_iff.mp e).1]
  exact e
/-- what stands still and what is owned elsewhere is borne on -/
theorem Go.rv (g : Go False C O M H C' O' M' H') (hC : ∀ p ∈ C, M p) {v : V} {d : D} {os : List Addr} (r : RV K C M H v d os) (n : ∀ a ∈ os, a ∉ C) : RV K C' M' H' v d os :=
  r.mono g.cat (fun a o h e => g.keep a o (fun z => h (hC a z)) (fun z => z.elim) e) (fun a o h e z => by
    rcases g.fresh a z with z | z
    · exact h z
    · rw [e] at z; cases z) fun a ha o e => g.keep a o (n a ha) (fun z => z.elim) e
theorem Go.rvs (g : Go False C O M H C' O' M' H') (hC : ∀ p ∈ C, M p) {v : List V} {d : List D} {os : List Addr} (r : RVs K C M H v d os) (n : ∀ a ∈ os, a ∉ C) : RVs K C' M' H' v d os :=
  r.mono g.cat (fun a o h e => g.keep a o (fun z => h (hC a z)) (fun z => z.elim) e) (fun a o h e z => by
    rcases g.fresh a z with z | z
    · exact h z
    · rw [e] at z; cases z) fun a ha o e => g.keep a o (n a ha) (fun z => z.elim) e
/-- .. what stands still alone, through statements -/
theorem Go.rv0 (g : Go w C O M H C' O' M' H') (hC : ∀ p ∈ C, M p) (hO : ∀ p ∈ O, M p) {v : V} {d : D} (r : RV K C M H v d []) : RV K C' M' H' v d [] :=
  r.mono g.cat (fun a o h e => g.keep a o (fun z => h (hC a z)) (fun _ z => h (hO a z)) e) (fun a o h e z => by
    rcases g.fresh a z with z | z
    · exact h z
    · rw [e] at z; cases z) fun a ha => nomatch ha
theorem Go.rvs0 (g : Go w C O M H C' O' M' H') (hC : ∀ p ∈ C, M p) (hO : ∀ p ∈ O, M p) {v : List V} {d : List D} (r : RVs K C M H v d []) : RVs K C' M' H' v d [] :=
  r.mono g.cat (fun a o h e => g.keep a o (fun z => h (hC a z)) (fun _ z => h (hO a z)) e) (fun a o h e z => by
    rcases g.fresh a z with z | z
    · exact h z
    · rw [e] at z; cases z) fun a ha => nomatch ha

/-- the heap grows, the forbidden places with it -/
structure Gr (M : Addr → Prop) (H : Hp) (M' : Addr → Prop) (H' : Hp) : Prop where
  keep : ∀ a o, H a = some o → H' a = some o
  up : ∀ a, M a → M' a
  fresh : ∀ a, M' a → M a ∨ H a = none
  tr : ∀ a, M' a → ∃ o, H' a = some o
theorem Gr.refl (t : ∀ a, M a → ∃ o, H a = some o) : Gr M H M H := ⟨fun _ _ e => e, fun _ h => h, fun _ h => .inl h, t⟩
theorem Gr.tup {p : Addr} {o : HO} (t : ∀ a, M a → ∃ o, H a = some o) (n : H p = none) : Gr M H M (upd H p o) :=
  ⟨fun a u e => by rw [upd_ne (ne_of_none e n)]; exact e, fun _ h => h, fun _ h => .inl h, fun a h => by
    obtain ⟨u, e⟩ := t a h
    exact ⟨u, by rw [upd_ne (ne_of_none e n)]; exact e⟩⟩
theorem Gr.own {p : Addr} {o : HO} (t : ∀ a, M a → ∃ o, H a = some o) (n : H p = none) : Gr M H (fun a => M a ∨ a = p) (upd H p o) :=
  ⟨fun a u e => by rw [upd_ne (ne_of_none e n)]; exact e, fun _ h => .inl h, fun a h => by
    rcases h with h | h
    · exact .inl h
    · subst h; exact .inr n, fun a h => by
    rcases h with h | h
    · obtain ⟨u, e⟩ := t a h
      exact ⟨u, by rw [upd_ne (ne_of_none e n)]; exact e⟩
    · subst h; exact ⟨_, upd_same⟩⟩
theorem Gr.trans (g : Gr M H M' H') (g' : Gr M' H' M'' H'') : Gr M H M'' H'' :=
  ⟨fun a o e => g'.keep a o (g.keep a o e), fun a h => g'.up a (g.up a h), fun a h => by
    rcases g'.fresh a h with z | z
    · exact g.fresh a z
    · exact .inr (by
        cases e : H a with
        | none => rfl
        | some o =>
          rw [g.keep a o e] at z
          cases z), g'.tr⟩
theorem Gr.rv (g : Gr M H M' H') {v : V} {d : D} {os : List Addr} (r : RV K C M H v d os) : RV K C M' H' v d os :=
  r.mono (fun _ _ e => e) (fun a o _ e => g.keep a o e) (fun a o h e z => by
    rcases g.fresh a z with z | z
    · exact h z
    · rw [e] at z; cases z) fun a _ o e => g.keep a o e
theorem Gr.rvs (g : Gr M H M' H') {v : List V} {d : List D} {os : List Addr} (r : RVs K C M H v d os) : RVs K C M' H' v d os :=
  r.mono (fun _ _ e => e) (fun a o _ e => g.keep a o e) (fun a o h e z => by
    rcases g.fresh a z with z | z
    · exact h z
    · rw [e] at z; cases z) fun a _ o e => g.keep a o e
theorem Gr.ci (g : Gr M H M' H') (c : CI K C M H st) : CI K C M' H' st :=
  ⟨c.len, fun i ds p e1 e2 => by
    obtain ⟨xs, h, r⟩ := c.at_ i ds p e1 e2
    exact ⟨xs, g.keep _ _ h, g.rvs r⟩, c.nd, fun p hp => g.up p (c.mC p hp), g.tr⟩
theorem RSl.grow (g : Gr M H M' H') : ∀ {σ : L2.St} {env : Env} {O : List Addr}, RSl K C M H σ env O → RSl K C M' H' σ env O
  | _, _, _, .nil => .nil
  | _, _, _, .no r => .no (r.grow g)
  | _, _, _, .so h r => .so (g.rv h) (r.grow g)
theorem Gr.fi (g : Gr M H M' H') (f : FI K C O M H σ env st) : FI K C O M' H' σ env st := ⟨g.ci f.ci, f.sl.grow g, f.od, f.oc, fun a h => g.up a (f.mO a h)⟩
theorem Gr.go (g : Gr M H M' H') : Go w C O M H C O M' H' := ⟨fun a o _ _ e => g.keep a o e, ⟨[], (List.append_nil C).symm⟩, fun _ h => .inl h, g.fresh, fun a h _ => g.up a h, fun _ h => .inl h, fun a h => by
  cases e : H a with
  | none => rfl
  | some o =>
    rw [g.keep a o e] at h
    cases h⟩

/-- forbidden no more: what is in os -/
theorem CI.less {os : List Addr} (c : CI K C M H st) (n : ∀ a ∈ os, a ∉ C) : CI K C (fun a => M a ∧ a ∉ os) H st :=
  ⟨c.len, fun i ds p e1 e2 => by
    obtain ⟨xs, h, r⟩ := c.at_ i ds p e1 e2
    exact ⟨xs, h, r.mono (fun _ _ e => e) (fun _ _ _ e => e) (fun a o h _ z => h z.1) fun _ z => nomatch z⟩, c.nd, fun p hp => ⟨c.mC p hp, fun z => n p z hp⟩, fun p h => c.tr p h.1⟩
theorem RSl.less {M' : Addr → Prop} (n : ∀ a, ¬ M a → ¬ M' a) : ∀ {σ : L2.St} {env : Env} {O : List Addr}, RSl K C M H σ env O → RSl K C M' H σ env O
  | _, _, _, .nil => .nil
  | _, _, _, .no r => .no (r.less n)
  | _, _, _, .so h r => .so (h.mono (fun _ _ e => e) (fun _ _ _ e => e) (fun a o h _ => n a h) fun _ _ _ e => e) (r.less n)
theorem FI.less {os : List Addr} (f : FI K C O M H σ env st) (n : ∀ a ∈ os, a ∉ C) (n' : ∀ a ∈ os, a ∉ O) : FI K C O (fun a => M a ∧ a ∉ os) H σ env st :=
  ⟨f.ci.less n, f.sl.less (fun a h z => h z.1), f.od, f.oc, fun a h => ⟨f.mO a h, fun z => n' a z h⟩⟩

/-! ### slots -/
theorem RSl.len : ∀ {σ : L2.St} {env : Env} {O : List Addr}, RSl K C M H σ env O → σ.length = env.length
  | _, _, _, .nil => rfl
  | _, _, _, .no r => by rw [List.length_cons, List.length_cons, r.len]
  | _, _, _, .so _ r => by rw [List.length_cons, List.length_cons, r.len]
theorem RSl.mono (hc : ∀ (c : Nat) (p : Addr), C[c]? = some p → C'[c]? = some p) (k : ∀ a o, ¬ M a → H a = some o → H' a = some o) (n : ∀ a o, ¬ M a → H a = some o → ¬ M' a) :
    ∀ {σ : L2.St} {env : Env} {O : List Addr}, RSl K C M H σ env O → (∀ a ∈ O, ∀ o, H a = some o → H' a = some o) → RSl K C' M' H' σ env O
  | _, _, _, .nil, _ => .nil
  | _, _, _, .no r, q => .no (r.mono hc k n q)
  | _, _, _, .so h r, q => .so (h.mono hc k n fun a ha => q a (List.mem_append_left _ ha)) (r.mono hc k n fun a ha => q a (List.mem_append_right _ ha))
/-- a slot's value, what it owns, and all the others' -/
theorem RSl.get : ∀ {σ : L2.St} {env : Env} {O : List Addr}, RSl K C M H σ env O → ∀ {i : Nat} {d : D}, env[i]? = some (some d) →
    ∃ v o, σ[i]? = some (some v) ∧ RV K C M H v d o ∧ ∃ O1 O2, O = O1 ++ (o ++ O2) ∧ ∀ (C' : List Addr) (M' : Addr → Prop) (H' : Hp), (∀ (c : Nat) (p : Addr), C[c]? = some p → C'[c]? = some p) → (∀ a o, ¬ M a → H a = some o → H' a = some o) → (∀ a o, ¬ M a → H a = some o → ¬ M' a) →
      (∀ a ∈ O1 ++ O2, ∀ o, H a = some o → H' a = some o) → RSl K C' M' H' σ (env.set i none) (O1 ++ O2) ∧ ∀ d' o', RV K C' M' H' v d' o' → RSl K C' M' H' σ (env.set i (some d')) (O1 ++ (o' ++ O2))
  | _, _, _, .nil, i, d, e => by simp at e
  | _, _, _, .no r, 0, d, e => by simp at e
  | _, _, _, .so (o := o) (O := O) h r, 0, d, e => by
    simp only [List.getElem?_cons_zero, Option.some.injEq] at e
    subst e
    exact ⟨_, o, rfl, h, [], O, rfl, fun C' M' H' hc k n q => ⟨.no (r.mono hc k n q), fun d' o' w => RSl.so (o := o') w (r.mono hc k n q)⟩⟩
  | _, _, _, .no r, i + 1, d, e => by
    simp only [List.getElem?_cons_succ] at e
    obtain ⟨v, o, e1, q, O1, O2, eo, z⟩ := r.get e
    exact ⟨v, o, by simpa using e1, q, O1, O2, eo, fun C' M' H' hc k n q => ⟨.no (z C' M' H' hc k n q).1, fun d' o' w => .no ((z C' M' H' hc k n q).2 d' o' w)⟩⟩
  | _, _, _, .so (o := a) h r, i + 1, d, e => by
    simp only [List.getElem?_cons_succ] at e
    obtain ⟨v, o, e1, q, O1, O2, eo, z⟩ := r.get e
    refine ⟨v, o, by simpa using e1, q, a ++ O1, O2, by rw [eo, List.append_assoc], fun C' M' H' hc k n q => ?_⟩
    rw [List.append_assoc] at q
    have z' := z C' M' H' hc k n fun x hx => q x (List.mem_append_right _ hx)
    have h' := h.mono hc k n fun x hx => q x (List.mem_append_left _ hx)
    refine ⟨?_, fun d' o' w => ?_⟩
    · rw [List.append_assoc]
      exact .so h' z'.1
    · rw [List.append_assoc]
      exact .so h' (z'.2 d' o' w)
/-- a slot is stored anew: what it owned is dropped -/
theorem RSl.set : ∀ {σ : L2.St} {env : Env} {O : List Addr}, RSl K C M H σ env O → ∀ {i : Nat} {v : V} {d : D} {o : List Addr}, i < env.length → RV K C M H v d o →
    ∃ O1 o0 O2, O = O1 ++ (o0 ++ O2) ∧ RSl K C M H (σ.set i (some v)) (env.set i (some d)) (O1 ++ (o ++ O2))
  | _, _, _, .nil, i, v, d, o, hi, _ => by simp at hi
  | _, _, _, .no (O := O) r, 0, v, d, o, hi, q => ⟨[], [], O, rfl, RSl.so (o := o) q r⟩
  | _, _, _, .so (o := a) (O := O) h r, 0, v, d, o, hi, q => ⟨[], a, O, rfl, RSl.so (o := o) q r⟩
  | _, _, _, .no r, i + 1, v, d, o, hi, q => by
    obtain ⟨O1, o0, O2, e, z⟩ := r.set (i := i) (by simpa using hi) q
    exact ⟨O1, o0, O2, e, .no z⟩
  | _, _, _, .so (o := a) h r, i + 1, v, d, o, hi, q => by
    obtain ⟨O1, o0, O2, e, z⟩ := r.set (i := i) (by simpa using hi) q
    refine ⟨a ++ O1, o0, O2, by rw [e, List.append_assoc], ?_⟩
    rw [List.append_assoc]
    exact .so h z
/-- a slot is forgotten -/
theorem RSl.drop : ∀ {σ : L2.St} {env : Env} {O : List Addr}, RSl K C M H σ env O → ∀ (i : Nat) (x : Option V), ∃ O1 o0 O2, O = O1 ++ (o0 ++ O2) ∧ RSl K C M H (σ.set i x) (env.set i none) (O1 ++ O2)
  | _, _, _, .nil, i, x => ⟨[], [], [], rfl, .nil⟩
  | _, _, _, .no (O := O) r, 0, x => ⟨[], [], O, rfl, .no r⟩
  | _, _, _, .so (o := a) (O := O) h r, 0, x => ⟨[], a, O, rfl, .no r⟩
  | _, _, _, .no r, i + 1, x => by
    obtain ⟨O1, o0, O2, e, z⟩ := r.drop i x
    exact ⟨O1, o0, O2, e, .no z⟩
  | _, _, _, .so (o := a) h r, i + 1, x => by
    obtain ⟨O1, o0, O2, e, z⟩ := r.drop i x
    refine ⟨a ++ O1, o0, O2, by rw [e, List.append_assoc], ?_⟩
    rw [List.append_assoc]
    exact .so h z
end
end Pv

/-! # PvB -/
set_option Elab.async false
set_option linter.all false
set_option maxHeartbeats 1000000
/-! judgements: what an expression gives, as a plain function of the frame's data -/
namespace Pv
open PySem L2

theorem pe_weak {X : Cx} {e : Expr} {t t' : TE} (h : PE X e t) (i : ∀ σ H Q, t' σ H Q → t σ H Q) : PE X e t' := ⟨fun pins s σ H Q I q => h.run pins s σ H Q I (i σ H Q q)⟩
theorem pt_weak {X : Cx} {e : Expr} {t t' : TT} (h : PT X e t) (i : ∀ σ H Q, t' σ H Q → t σ H Q) : PT X e t' := ⟨fun pins s σ H Q I q => h.run pins s σ H Q I (i σ H Q q)⟩
theorem pw_weak {X : Cx} {e : Expr} {t t' : TT} (h : PW X e t) (i : ∀ σ H Q, t' σ H Q → t σ H Q) : PW X e t' := ⟨fun wh pins s σ H Q I q => h.run wh pins s σ H Q I (i σ H Q q)⟩
theorem pa_weak {X : Cx} {e : List Expr} {t t' : TA} (h : PA X e t) (i : ∀ σ H Q, t' σ H Q → t σ H Q) : PA X e t' := ⟨fun pos pins s σ H Q I q => h.run pos pins s σ H Q I (i σ H Q q)⟩
theorem ps_weak {X : Cx} {e : Stmt} {t t' : TS} (h : PS X e t) (i : ∀ D σ H, t' D σ H → t D σ H) : PS X e t' := ⟨fun pins s σ H D I q => h.run pins s σ H D I (i D σ H q)⟩
theorem pss_weak {X : Cx} {e : List Stmt} {t t' : TS} (h : PSs X e t) (i : ∀ D σ H, t' D σ H → t D σ H) : PSs X e t' := ⟨fun pins s σ H D I q => h.run pins s σ H D I (i D σ H q)⟩

abbrev ES := Env → Ms → Option (D × Env × Ms)
abbrev AS := Env → Ms → Option (List D × Env × Ms)
abbrev BS := Env → Ms → Option (Bool × Env × Ms)

/-- to be looked at | a value that nobody else owns | a value that stands still -/
def tP (K : PySem.W.Frag) (f : ES) : TE := fun σ H Q => ∃ C O M env st d env' st', FI K C O M H σ env st ∧ f env st = some (d, env', st') ∧
  ∀ v H' C' O' M' os, Go False C O M H C' O' M' H' → FI K C' O' M' H' σ env' st' → RV K C' M' H' v d os → (∀ a ∈ os, a ∉ C') → Q v H'
def tE (K : PySem.W.Frag) (f : ES) : TE := fun σ H Q => ∃ C O M env st d env' st', FI K C O M H σ env st ∧ f env st = some (d, env', st') ∧
  ∀ v H' C' O' M' os, Go False C O M H C' O' M' H' → FI K C' O' M' H' σ env' st' → RV K C' M' H' v d os → os.Nodup → (∀ a ∈ os, a ∉ C' ∧ a ∉ O' ∧ M' a ∧ (a ∈ O ∨ H a = none)) → Q v H'
def tZ (K : PySem.W.Frag) (f : ES) : TE := fun σ H Q => ∃ C O M env st d env' st', FI K C O M H σ env st ∧ f env st = some (d, env', st') ∧
  ∀ v H' C' O' M', Go False C O M H C' O' M' H' → FI K C' O' M' H' σ env' st' → RV K C' M' H' v d [] → Q v H'
def SP (X : Cx) (e : Expr) (f : ES) : Prop := PE X e (tP X.K f)
def SE (X : Cx) (e : Expr) (f : ES) : Prop := PE X e (tE X.K f)
def SZ (X : Cx) (e : Expr) (f : ES) : Prop := PE X e (tZ X.K f)
def tPs (K : PySem.W.Frag) (f : AS) : TA := fun σ H Q => ∃ C O M env st d env' st', FI K C O M H σ env st ∧ f env st = some (d, env', st') ∧
  ∀ v H' C' O' M' os, Go False C O M H C' O' M' H' → FI K C' O' M' H' σ env' st' → RVs K C' M' H' v d os → (∀ a ∈ os, a ∉ C') → Q v H'
def tEs (K : PySem.W.Frag) (f : AS) : TA := fun σ H Q => ∃ C O M env st d env' st', FI K C O M H σ env st ∧ f env st = some (d, env', st') ∧
  ∀ v H' C' O' M' os, Go False C O M H C' O' M' H' → FI K C' O' M' H' σ env' st' → RVs K C' M' H' v d os → os.Nodup → (∀ a ∈ os, a ∉ C' ∧ a ∉ O' ∧ M' a ∧ (a ∈ O ∨ H a = none)) → Q v H'
def tZs (K : PySem.W.Frag) (f : AS) : TA := fun σ H Q => ∃ C O M env st d env' st', FI K C O M H σ env st ∧ f env st = some (d, env', st') ∧
  ∀ v H' C' O' M', Go False C O M H C' O' M' H' → FI K C' O' M' H' σ env' st' → RVs K C' M' H' v d [] → Q v H'
def SPs (X : Cx) (e : List Expr) (f : AS) : Prop := PA X e (tPs X.K f)
def SEs (X : Cx) (e : List Expr) (f : AS) : Prop := PA X e (tEs X.K f)
def SZs (X : Cx) (e : List Expr) (f : AS) : Prop := PA X e (tZs X.K f)
def tT (K : PySem.W.Frag) (f : BS) : TT := fun σ H Q => ∃ C O M env st b env' st', FI K C O M H σ env st ∧ f env st = some (b, env', st') ∧
  ∀ H' C' O' M', Go False C O M H C' O' M' H' → FI K C' O' M' H' σ env' st' → Q b H'
def ST (X : Cx) (e : Expr) (f : BS) : Prop := PT X e (tT X.K f)
def SW (X : Cx) (e : Expr) (f : BS) : Prop := PW X e (tT X.K f)

section
variable {K : PySem.W.Frag} {C C' O O' : List Addr} {M M' : Addr → Prop} {H H' : Hp} {st st' : Ms} {σ : L2.St} {env env' : Env} {X : Cx} {ex : Expr} {f f1 f2 f3 : ES} {Q : VK}
theorem FI.noC (fi : FI K C O M H σ env st) {a : Addr} (h : H a = none) : a ∉ C := fun z => by
  obtain ⟨o, q⟩ := fi.ci.tr a (fi.ci.mC a z)
  rw [h] at q; cases q
theorem FI.noO (fi : FI K C O M H σ env st) {a : Addr} (h : H a = none) : a ∉ O := fun z => by
  obtain ⟨o, q⟩ := fi.ci.tr a (fi.mO a z)
  rw [h] at q; cases q
theorem SE.p (h : SE X ex f)  : SP X ex f := pe_weak h fun σ H Q ⟨C, O, M, env, st, d, env', st', fi, e, q⟩ =>
  ⟨C, O, M, env, st, d, env', st', fi, e, fun v H' C' O' M' os g fi' r _ n => q v H' C' O' M' os g fi' r fun a ha => (n a ha).1⟩
theorem SZ.se (h : SZ X ex f) : SE X ex f := pe_weak h fun σ H Q ⟨C, O, M, env, st, d, env', st', fi, e, q⟩ =>
  ⟨C, O, M, env, st, d, env', st', fi, e, fun v H' C' O' M' g fi' r => q v H' C' O' M' [] g fi' r .nil fun a ha => nomatch ha⟩
theorem SZ.p (h : SZ X ex f) : SP X ex f := h.se.p
def fZ (f : ES) : ES := fun env st => (f env st).map fun x => (x.1.fz, x.2)
theorem SE.z (h : SE X ex f) : SZ X ex (fZ f) := pe_weak h fun σ H Q ⟨C, O, M, env, st, d, env', st', fi, e, q⟩ => by
  unfold fZ at e
  rw [Option.map_eq_some_iff] at e
  obtain ⟨⟨d0, env1, st1⟩, e0, e1⟩ := e
  cases e1
  refine ⟨C, O, M, env, st, d0, env', st', fi, e0, fun v H' C' O' M' os g fi' r _ n => ?_⟩
  refine q v H' C' O' (fun a => M' a ∧ a ∉ os) ⟨g.keep, g.pre, g.newc, fun a h => g.fresh a h.1, fun a h1 h2 => ⟨g.forn a h1 h2, fun z => ?_⟩, g.ownd, g.back⟩ (fi'.less (fun a ha => (n a ha).1) fun a ha => (n a ha).2.1) (r.fz (fun a h z => h z.1) fun a ha z => z.2 ha)
  rcases (n a z).2.2.2 with w | w
  · exact h2 w
  · obtain ⟨o, q⟩ := fi.ci.tr a h1
    rw [w] at q; cases q

/-! ### names, constants -/
def fVar (i : Nat) : ES := fun env st => match env[i]? with
  | some (some d) => some (d.fz, env.set i (some d.fz), st)
  | _ => none
def fPk (i : Nat) : ES := fun env st => match env[i]? with
  | some (some d) => some (d, env, st)
  | _ => none
def fMv (i : Nat) : ES := fun env st => match env[i]? with
  | some (some d) => some (d, env.set i none, st)
  | _ => none
def fC (d : D) : ES := fun env st => some (d, env, st)
theorem sp_pk {i : Nat} {x : Str} {pos : Pos} (h : PE X (.Name x pos) (tVar i)) : SP X (.Name x pos) (fPk i) := pe_weak h fun σ H Q ⟨C, O, M, env, st, d, env', st', fi, e, q⟩ => by
  unfold fPk at e
  split at e
  · rename_i d0 e0
    cases e
    obtain ⟨v, o, e1, r, O1, O2, eo, _⟩ := fi.sl.get e0
    refine ⟨v, e1, q v H C O M o .refl fi r fun a ha => fi.oc a ?_⟩
    rw [eo]
    exact List.mem_append_right _ (List.mem_append_left _ ha)
  · cases e
theorem nd3 {O1 o O2 : List Addr} (h : (O1 ++ (o ++ O2)).Nodup) : (O1 ++ O2).Nodup ∧ o.Nodup ∧ ∀ a ∈ o, a ∉ O1 ++ O2 := by
  rw [List.nodup_append] at h
  obtain ⟨h1, h2, h3⟩ := h
  rw [List.nodup_append] at h2
  obtain ⟨h4, h5, h6⟩ := h2
  refine ⟨?_, h4, fun a ha z => ?_⟩
  · rw [List.nodup_append]
    exact ⟨h1, h5, fun a ha b hb => h3 a ha b (List.mem_append_right _ hb)⟩
  · rcases List.mem_append.mp z with z | z
    · exact h3 a z a (List.mem_append_left _ ha) rfl
    · exact h6 a ha a z rfl
theorem sub3 {O1 o O2 : List Addr} {a : Addr} (h : a ∈ O1 ++ O2) : a ∈ O1 ++ (o ++ O2) := by
  rcases List.mem_append.mp h with h | h
  · exact List.mem_append_left _ h
  · exact List.mem_append_right _ (List.mem_append_right _ h)
theorem se_mv {i : Nat} {x : Str} {pos : Pos} (h : PE X (.Name x pos) (tVar i)) : SE X (.Name x pos) (fMv i) := pe_weak h fun σ H Q ⟨C, O, M, env, st, d, env', st', fi, e, q⟩ => by
  unfold fMv at e
  split at e
  · rename_i d0 e0
    cases e
    obtain ⟨v, o, e1, r, O1, O2, eo, z1⟩ := fi.sl.get e0
    subst eo
    obtain ⟨n1, n2, n3⟩ := nd3 fi.od
    refine ⟨v, e1, q v H C (O1 ++ O2) M o ⟨fun _ _ _ _ e => e, ⟨[], (List.append_nil C).symm⟩, fun _ h => .inl h, fun _ h => .inl h, fun _ h _ => h, fun a h => .inl (sub3 h), fun _ h => h⟩
      ⟨fi.ci, (z1 C M H (fun _ _ e => e) (fun _ _ _ e => e) (fun _ _ h _ => h) fun _ _ _ e => e).1, n1, fun a ha => fi.oc a (sub3 ha), fun a ha => fi.mO a (sub3 ha)⟩ r n2 fun a ha => ?_⟩
    have hm : a ∈ O1 ++ (o ++ O2) := List.mem_append_right _ (List.mem_append_left _ ha)
    exact ⟨fi.oc a hm, n3 a ha, fi.mO a hm, .inl hm⟩
  · cases e
theorem sz_var {i : Nat} {x : Str} {pos : Pos} (h : PE X (.Name x pos) (tVar i)) : SZ X (.Name x pos) (fVar i) := pe_weak h fun σ H Q ⟨C, O, M, env, st, d, env', st', fi, e, q⟩ => by
  unfold fVar at e
  split at e
  · rename_i d0 e0
    cases e
    obtain ⟨v, o, e1, r, O1, O2, eo, z2⟩ := fi.sl.get e0
    subst eo
    obtain ⟨n1, n2, n3⟩ := nd3 fi.od
    have ho : ∀ a ∈ o, a ∈ O1 ++ (o ++ O2) := fun a ha => List.mem_append_right _ (List.mem_append_left _ ha)
    have rz : RV X.K C (fun a => M a ∧ a ∉ o) H v d0.fz [] := r.fz (fun a h z => h z.1) fun a ha z => z.2 ha
    refine ⟨v, e1, q v H C (O1 ++ O2) (fun a => M a ∧ a ∉ o) ⟨fun _ _ _ _ e => e, ⟨[], (List.append_nil C).symm⟩, fun _ h => .inl h, fun _ h => .inl h.1, fun a h1 h2 => ⟨h1, fun z => h2 (ho a z)⟩, fun a h => .inl (sub3 h), fun _ h => h⟩
      ⟨fi.ci.less fun a ha => fi.oc a (ho a ha), (z2 C (fun a => M a ∧ a ∉ o) H (fun _ _ e => e) (fun _ _ _ e => e) (fun a _ h _ z => h z.1) fun _ _ _ e => e).2 d0.fz [] rz, n1, fun a ha => fi.oc a (sub3 ha), fun a ha => ⟨fi.mO a (sub3 ha), fun z => n3 a z ha⟩⟩ rz⟩
  · cases e
theorem sz_c {v : V} {d : D} (h : PE X ex (tC v)) (r : ∀ K C M H, RV K C M H v d []) : SZ X ex (fC d) := pe_weak h fun σ H Q ⟨C, O, M, env, st, d, env', st', fi, e, q⟩ => by
  cases e
  exact q v H C O M .refl fi (r ..)
theorem sz_int {i : Int} {j pos} : SZ X (.Constant (.int i) j pos) (fC (.int i)) := sz_c pe_int fun _ _ _ _ => .int i
theorem sz_bl {b : Bool} {j pos} : SZ X (.Constant (.bool b) j pos) (fC (.bl b)) := sz_c pe_bl fun _ _ _ _ => .bl b
theorem sz_non {j pos} : SZ X (.Constant .none j pos) (fC .non) := sz_c pe_non fun _ _ _ _ => .non
theorem sz_str {x : Str} {j pos} : SZ X (.Constant (.str x) j pos) (fC (.str x)) := sz_c pe_str fun _ _ _ _ => .str x
/-- a module's int -/
theorem sz_gi {x : Str} {i : Int} {t : Tok} {pos : Pos} (hg : Gl X x) (hm : X.mg x = some (.int i t)) (hd : (x == ("__debug__" : Str)) = false := by decide) : SZ X (.Name x pos) (fC (.int i)) := sz_c (pe_glob (v := .int i) hg hm ⟨t, rfl⟩ hd) fun _ _ _ _ => .int i

/-! ### operations on values -/
/-- what an operation gives: r at v, the heap grown -/
def Ans (K : PySem.W.Frag) (C : List Addr) (M : Addr → Prop) (H : Hp) (r : D) (Q : VK) : Prop :=
  ∀ v H' M' os, Gr M H M' H' → RV K C M' H' v r os → os.Nodup → (∀ a ∈ os, M' a ∧ H a = none) → Q v H'
def OpOk (K : PySem.W.Frag) (r : R2) (g : Ms → D → D → Option D) : Prop :=
  ∀ C M H st v1 d1 o1 v2 d2 o2 res Q, CI K C M H st → RV K C M H v1 d1 o1 → RV K C M H v2 d2 o2 → g st d1 d2 = some res → Ans K C M H res Q → r v1 v2 H Q
def UnOk (K : PySem.W.Frag) (r : V → Hp → VK → Prop) (g : Ms → D → Option D) : Prop :=
  ∀ C M H st v1 d1 o1 res Q, CI K C M H st → RV K C M H v1 d1 o1 → g st d1 = some res → Ans K C M H res Q → r v1 H Q
def ClOk (K : PySem.W.Frag) (r : List V → Hp → VK → Prop) (g : Ms → List D → Option D) : Prop :=
  ∀ C M H st vs ds os res Q, CI K C M H st → RVs K C M H vs ds os → g st ds = some res → Ans K C M H res Q → r vs H Q
theorem Ans.val {K : PySem.W.Frag} {C : List Addr} {M : Addr → Prop} {H : Hp} {st : Ms} {r : D} {v : V} {Q : VK} (ci : CI K C M H st) (h : Ans K C M H r Q) (rv : RV K C M H v r []) : Q v H :=
  h v H M [] (.refl ci.tr) rv .nil fun a ha => nomatch ha
theorem ans_of {C2 O2 : List Addr} {M2 : Addr → Prop} {H2 : Hp} {env2 : Env} {st2 : Ms} {d : D} (fi : FI K C O M H σ env st) (g : Go False C O M H C2 O2 M2 H2) (fi2 : FI K C2 O2 M2 H2 σ env2 st2)
    (q : ∀ v H' C' O' M' os, Go False C O M H C' O' M' H' → FI K C' O' M' H' σ env2 st2 → RV K C' M' H' v d os → os.Nodup → (∀ a ∈ os, a ∉ C' ∧ a ∉ O' ∧ M' a ∧ (a ∈ O ∨ H a = none)) → Q v H') : Ans K C2 M2 H2 d Q :=
  fun v H3 M3 os gr rv nd hos => q v H3 C2 O2 M3 os (g.trans fi.ci.tr gr.go) (gr.fi fi2) rv nd fun a ha => ⟨fi2.noC (hos a ha).2, fi2.noO (hos a ha).2, (hos a ha).1, .inr (g.back a (hos a ha).2)⟩

def fBin (g : Ms → D → D → Option D) (f1 f2 : ES) : ES := fun env st => (f1 env st).bind fun x => (f2 x.2.1 x.2.2).bind fun y => (g y.2.2 x.1 y.1).map fun r => (r, y.2)
def fUn (g : Ms → D → Option D) (f1 : ES) : ES := fun env st => (f1 env st).bind fun x => (g x.2.2 x.1).map fun r => (r, x.2)
theorem te_bin {r : R2} {g : Ms → D → D → Option D} (hk : OpOk K r g) {σ : L2.St} {H : Hp} {Q : VK} (h : tE K (fBin g f1 f2) σ H Q) : tOp r (tP K f1) (tP K f2) σ H Q := by
  obtain ⟨C, O, M, env, st, d, env', st', fi, e, q⟩ := h
  unfold fBin at e
  rw [Option.bind_eq_some_iff] at e
  obtain ⟨⟨a, env1, st1⟩, e1, e⟩ := e
  rw [Option.bind_eq_some_iff] at e
  obtain ⟨⟨b, env2, st2⟩, e2, e⟩ := e
  rw [Option.map_eq_some_iff] at e
  obtain ⟨c, e3, e⟩ := e
  cases e
  refine ⟨C, O, M, env, st, a, env1, st1, fi, e1, fun v1 H1 C1 O1 M1 o1 g1 fi1 r1 n1 => ⟨C1, O1, M1, env1, st1, b, env', st', fi1, e2, fun v2 H2 C2 O2 M2 o2 g2 fi2 r2 n2 => ?_⟩⟩
  exact hk C2 M2 H2 st' v1 a o1 v2 b o2 d Q fi2.ci (g2.rv fi1.ci.mC r1 n1) r2 e3 (ans_of fi (g1.trans fi.ci.tr g2) fi2 q)
theorem te_un {r : V → Hp → VK → Prop} {g : Ms → D → Option D} (hk : UnOk K r g) {σ : L2.St} {H : Hp} {Q : VK} (h : tE K (fUn g f1) σ H Q) : tUn r (tP K f1) σ H Q := by
  obtain ⟨C, O, M, env, st, d, env', st', fi, e, q⟩ := h
  unfold fUn at e
  rw [Option.bind_eq_some_iff] at e
  obtain ⟨⟨a, env1, st1⟩, e1, e⟩ := e
  rw [Option.map_eq_some_iff] at e
  obtain ⟨c, e3, e⟩ := e
  cases e
  refine ⟨C, O, M, env, st, a, env', st', fi, e1, fun v1 H1 C1 O1 M1 o1 g1 fi1 r1 n1 => ?_⟩
  exact hk C1 M1 H1 _ v1 a o1 d Q fi1.ci r1 e3 (ans_of fi g1 fi1 q)
section
variable {a b c : Expr} {pos : Pos}
theorem se_bin {op : Operator} {r : R2} {g : Ms → D → D → Option D} (ho : OpR X (binaryOp op) r) (hk : OpOk X.K r g) (ha : SP X a f1) (hb : SP X b f2) : SE X (.BinOp a op b pos) (fBin g f1 f2) := pe_weak (pe_op ho ha hb) fun _ _ _ h => te_bin hk h
theorem se_un {op : UnaryOp} {r : V → Hp → VK → Prop} {g : Ms → D → Option D} (ho : UnR X (unaryOp op) r) (hk : UnOk X.K r g) (ha : SP X a f1) : SE X (.UnaryOp op a pos) (fUn g f1) := pe_weak (pe_un ho ha) fun _ _ _ h => te_un hk h
theorem se_cmp {op : CmpOp} {r : R2} {g : Ms → D → D → Option D} (ho : OpR X (compareOp op) r) (hk : OpOk X.K r g) (ha : SP X a f1) (hb : SP X b f2) (hm : behindInMarks op b = false) : SE X (.Compare a [op] [b] pos) (fBin g f1 f2) :=
  pe_weak (pe_cmpR ho ha hb hm) fun _ _ _ h => te_bin hk h
theorem se_ix {r : R2} {g : Ms → D → D → Option D} (ho : IxR X r) (hk : OpOk X.K r g) (ha : SP X a f1) (hb : SP X b f2) (hs : PlainIx b) : SE X (.Subscript a b pos) (fBin g f1 f2) := pe_weak (pe_ix ho ha hb hs) fun _ _ _ h => te_bin hk h
end
end
end Pv

/-! # PvC -/
set_option Elab.async false
set_option linter.all false
set_option maxHeartbeats 1000000
/-! arguments, displays, built-ins, tests -/
namespace Pv
open PySem L2
section
variable {X : Cx} {ex : Expr} {es : List Expr} {f f1 f2 f3 : ES} {fs : AS} {pos : Pos}
def aNil : AS := fun env st => some ([], env, st)
def aCons (f : ES) (fs : AS) : AS := fun env st => (f env st).bind fun x => (fs x.2.1 x.2.2).map fun y => (x.1 :: y.1, y.2)
theorem sps_nil : SPs X [] aNil := pa_weak pa_nil fun σ H Q ⟨C, O, M, env, st, d, env', st', fi, e, q⟩ => by
  cases e
  exact q [] H C O M [] .refl fi .nil fun a ha => nomatch ha
theorem szs_nil : SZs X [] aNil := pa_weak pa_nil fun σ H Q ⟨C, O, M, env, st, d, env', st', fi, e, q⟩ => by
  cases e
  exact q [] H C O M .refl fi .nil
theorem ses_nil : SEs X [] aNil := pa_weak pa_nil fun σ H Q ⟨C, O, M, env, st, d, env', st', fi, e, q⟩ => by
  cases e
  exact q [] H C O M [] .refl fi .nil .nil fun a ha => nomatch ha
theorem sps_cons (h : SP X ex f) (r : SPs X es fs) (hs : starEach (ex :: es) X.env = (false, eval ex X.env) :: starEach es X.env := by rfl) : SPs X (ex :: es) (aCons f fs) := pa_weak (pa_cons h r hs) fun σ H Q ⟨C, O, M, env, st, d, env', st', fi, e, q⟩ => by
  unfold aCons at e
  rw [Option.bind_eq_some_iff] at e
  obtain ⟨⟨a, env1, st1⟩, e1, e⟩ := e
  rw [Option.map_eq_some_iff] at e
  obtain ⟨⟨c, env2, st2⟩, e2, e⟩ := e
  cases e
  refine ⟨C, O, M, env, st, a, env1, st1, fi, e1, fun v1 H1 C1 O1 M1 o1 g1 fi1 r1 n1 => ⟨C1, O1, M1, env1, st1, c, env', st', fi1, e2, fun v2 H2 C2 O2 M2 o2 g2 fi2 r2 n2 => ?_⟩⟩
  refine q (v1 :: v2) H2 C2 O2 M2 (o1 ++ o2) (g1.trans fi.ci.tr g2) fi2 (.cons (g2.rv fi1.ci.mC r1 n1) r2) fun x hx => ?_
  rcases List.mem_append.mp hx with hx | hx
  · intro z
    rcases g2.newc0 x z with z | z
    · exact n1 x hx z
    · obtain ⟨o, w⟩ := r1.otr x hx
      rw [z] at w; cases w
  · exact n2 x hx
theorem szs_cons (h : SZ X ex f) (r : SZs X es fs) (hs : starEach (ex :: es) X.env = (false, eval ex X.env) :: starEach es X.env := by rfl) : SZs X (ex :: es) (aCons f fs) := pa_weak (pa_cons h r hs) fun σ H Q ⟨C, O, M, env, st, d, env', st', fi, e, q⟩ => by
  unfold aCons at e
  rw [Option.bind_eq_some_iff] at e
  obtain ⟨⟨a, env1, st1⟩, e1, e⟩ := e
  rw [Option.map_eq_some_iff] at e
  obtain ⟨⟨c, env2, st2⟩, e2, e⟩ := e
  cases e
  refine ⟨C, O, M, env, st, a, env1, st1, fi, e1, fun v1 H1 C1 O1 M1 g1 fi1 r1 => ⟨C1, O1, M1, env1, st1, c, env', st', fi1, e2, fun v2 H2 C2 O2 M2 g2 fi2 r2 => ?_⟩⟩
  exact q (v1 :: v2) H2 C2 O2 M2 (g1.trans fi.ci.tr g2) fi2 (.cons0 (g2.rv fi1.ci.mC r1 fun a ha => nomatch ha) r2)
theorem ses_cons (h : SE X ex f) (r : SEs X es fs) (hs : starEach (ex :: es) X.env = (false, eval ex X.env) :: starEach es X.env := by rfl) : SEs X (ex :: es) (aCons f fs) := pa_weak (pa_cons h r hs) fun σ H Q ⟨C, O, M, env, st, d, env', st', fi, e, q⟩ => by
  unfold aCons at e
  rw [Option.bind_eq_some_iff] at e
  obtain ⟨⟨a, env1, st1⟩, e1, e⟩ := e
  rw [Option.map_eq_some_iff] at e
  obtain ⟨⟨c, env2, st2⟩, e2, e⟩ := e
  cases e
  refine ⟨C, O, M, env, st, a, env1, st1, fi, e1, fun v1 H1 C1 O1 M1 o1 g1 fi1 r1 nd1 n1 => ⟨C1, O1, M1, env1, st1, c, env', st', fi1, e2, fun v2 H2 C2 O2 M2 o2 g2 fi2 r2 nd2 n2 => ?_⟩⟩
  have t1 : ∀ x ∈ o1, ¬ H1 x = none := fun x hx z => by
    obtain ⟨o, w⟩ := r1.otr x hx
    rw [z] at w; cases w
  refine q (v1 :: v2) H2 C2 O2 M2 (o1 ++ o2) (g1.trans fi.ci.tr g2) fi2 (.cons (g2.rv fi1.ci.mC r1 fun x hx => (n1 x hx).1) r2) ?_ fun x hx => ?_
  · rw [List.nodup_append]
    refine ⟨nd1, nd2, fun x hx y hy z => ?_⟩
    subst z
    rcases (n2 x hy).2.2.2 with w | w
    · exact (n1 x hx).2.1 w
    · exact t1 x hx w
  · rcases List.mem_append.mp hx with hx | hx
    · obtain ⟨m1, m2, m3, m4⟩ := n1 x hx
      refine ⟨fun z => ?_, fun z => ?_, g2.forn x m3 m2, m4⟩
      · rcases g2.newc0 x z with z | z
        · exact m1 z
        · exact t1 x hx z
      · rcases g2.ownd x z with z | z
        · exact m2 z
        · exact t1 x hx z
    · obtain ⟨m1, m2, m3, m4⟩ := n2 x hx
      refine ⟨m1, m2, m3, ?_⟩
      rcases m4 with z | z
      · exact g1.ownd x z
      · exact .inr (g1.back x z)

/-! ### displays -/
def BIG : Nat := 1000000
theorem big_size {n : Nat} (h : n ≤ BIG) : n ≤ sizeLine := Nat.le_trans h (by decide)
theorem big_lt {n : Nat} (h : n ≤ BIG) : n < sizeLine := Nat.lt_of_le_of_lt h (by decide)
def fTup (fs : AS) : ES := fun env st => (fs env st).bind fun x => if x.1.length ≤ BIG then some (.tup x.1, x.2) else none
def fLst (fs : AS) : ES := fun env st => (fs env st).bind fun x => if x.1.length ≤ BIG then some (.own x.1, x.2) else none
theorem se_tup {k : Nat} (h : SEs X es fs) : SE X (.Tuple es k pos) (fTup fs) := pe_weak (pe_tup h) fun σ H Q ⟨C, O, M, env, st, d, env', st', fi, e, q⟩ => by
  unfold fTup at e
  rw [Option.bind_eq_some_iff] at e
  obtain ⟨⟨a, env1, st1⟩, e1, e⟩ := e
  split at e
  · rename_i hb
    cases e
    refine ⟨C, O, M, env, st, a, env', st', fi, e1, fun vs H1 C1 O1 M1 o1 g1 fi1 r1 nd1 n1 => ⟨by rw [r1.len]; exact big_size hb, fun p hp => ?_⟩⟩
    have gr : Gr M1 H1 M1 (upd H1 p (.tup vs)) := .tup fi1.ci.tr hp
    exact q _ _ C1 O1 M1 o1 (g1.trans fi.ci.tr gr.go) (gr.fi fi1) (.tup (.inl ⟨upd_same, fun z => by
      obtain ⟨o, w⟩ := fi1.ci.tr p z
      rw [hp] at w; cases w⟩) (gr.rvs r1)) nd1 n1
  · cases e
theorem se_lst (h : SEs X es fs) : SE X (.List es pos) (fLst fs) := pe_weak (pe_lst h) fun σ H Q ⟨C, O, M, env, st, d, env', st', fi, e, q⟩ => by
  unfold fLst at e
  rw [Option.bind_eq_some_iff] at e
  obtain ⟨⟨a, env1, st1⟩, e1, e⟩ := e
  split at e
  · rename_i hb
    cases e
    refine ⟨C, O, M, env, st, a, env', st', fi, e1, fun vs H1 C1 O1 M1 o1 g1 fi1 r1 nd1 n1 => ⟨by rw [r1.len]; exact big_size hb, fun p hp => ?_⟩⟩
    have gr : Gr M1 H1 (fun a => M1 a ∨ a = p) (upd H1 p (.lst vs)) := .own fi1.ci.tr hp
    refine q _ _ C1 O1 _ (p :: o1) (g1.trans fi.ci.tr gr.go) (gr.fi fi1) (.own upd_same (gr.rvs r1)) ?_ fun x hx => ?_
    · refine List.nodup_cons.mpr ⟨fun z => ?_, nd1⟩
      obtain ⟨o, w⟩ := r1.otr p z
      rw [hp] at w; cases w
    · rcases List.mem_cons.mp hx with z | z
      · subst z
        exact ⟨fi1.noC hp, fi1.noO hp, .inr rfl, .inr (g1.back _ hp)⟩
      · obtain ⟨m1, m2, m3, m4⟩ := n1 x z
        exact ⟨m1, m2, .inl m3, m4⟩
  · cases e

/-! ### built-ins called -/
def fCl (g : Ms → List D → Option D) (fs : AS) : ES := fun env st => (fs env st).bind fun x => (g x.2.2 x.1).map fun r => (r, x.2)
theorem te_cl {K : PySem.W.Frag} {r : List V → Hp → VK → Prop} {g : Ms → List D → Option D} (hk : ClOk K r g) {σ : L2.St} {H : Hp} {Q : VK} (h : tE K (fCl g fs) σ H Q) : tCB r (tPs K fs) σ H Q := by
  obtain ⟨C, O, M, env, st, d, env', st', fi, e, q⟩ := h
  unfold fCl at e
  rw [Option.bind_eq_some_iff] at e
  obtain ⟨⟨a, env1, st1⟩, e1, e⟩ := e
  rw [Option.map_eq_some_iff] at e
  obtain ⟨c, e3, e⟩ := e
  cases e
  refine ⟨C, O, M, env, st, a, env', st', fi, e1, fun vs H1 C1 O1 M1 o1 g1 fi1 r1 n1 => ?_⟩
  exact hk C1 M1 H1 _ vs a o1 d Q fi1.ci r1 e3 (ans_of fi g1 fi1 q)
variable {x : Str} {p : Pos} {id T : String} {r : List V → Hp → VK → Prop} {g : Ms → List D → Option D}
theorem se_clB (hc : CallR X (.builtin id) r) (hk : ClOk X.K r g) (hg : Gl X x) (hm : X.mg x = none) (hv : bootBuiltins x = some (.builtin id)) (ha : SPs X (ex :: es) fs) (hn : x ≠ "__name__" := by decide) (hdb : (x == ("__debug__" : Str)) = false := by decide)
    (he : starEach (ex :: es) X.env = (false, eval ex X.env) :: starEach es X.env := by rfl) (hpl : (backTo pos (starEach es X.env)).any (·.1) = false := by rfl) : SE X (.Call (.Name x p) (ex :: es) [] pos) (fCl g fs) :=
  pe_weak (pe_callB hc hg hm hv ha hn hdb he hpl) fun _ _ _ h => te_cl hk h
theorem se_clT (hc : CallR X (.type T) r) (hk : ClOk X.K r g) (hg : Gl X x) (hm : X.mg x = none) (hv : bootBuiltins x = some (.type T)) (ha : SPs X (ex :: es) fs) (hn : x ≠ "__name__" := by decide) (hdb : (x == ("__debug__" : Str)) = false := by decide)
    (he : starEach (ex :: es) X.env = (false, eval ex X.env) :: starEach es X.env := by rfl) (hpl : (backTo pos (starEach es X.env)).any (·.1) = false := by rfl) : SE X (.Call (.Name x p) (ex :: es) [] pos) (fCl g fs) :=
  pe_weak (pe_callTy hc hg hm hv ha hn hdb he hpl) fun _ _ _ h => te_cl hk h
end
end Pv

/-! # PvD -/
set_option Elab.async false
set_option linter.all false
set_option maxHeartbeats 1000000
/-! tests, and or not, conditional expressions -/
namespace Pv
open PySem L2
section
variable {X : Cx} {a b c ex : Expr} {es rest : List Expr} {f f1 f2 f3 : ES} {t1 t2 : BS} {pos : Pos} {σ : L2.St} {H : Hp}
def fB (f : ES) : BS := fun env st => (f env st).bind fun x => match x.1 with
  | .bl b => some (b, x.2)
  | _ => none
theorem fB_some {f : ES} {env env' : Env} {st st' : Ms} {b : Bool} (h : fB f env st = some (b, env', st')) : f env st = some (.bl b, env', st') := by
  unfold fB at h
  rw [Option.bind_eq_some_iff] at h
  obtain ⟨⟨d, env1, st1⟩, e1, e⟩ := h
  dsimp only at e
  split at e
  · rename_i b0
    cases e
    exact e1
  · cases e
theorem rv_bl {K : PySem.W.Frag} {C : List Addr} {M : Addr → Prop} {v : V} {b : Bool} {os : List Addr} (r : RV K C M H v (.bl b) os) : v = .bl b ∧ os = [] := by
  cases r
  exact ⟨rfl, rfl⟩
theorem te_tt {K : PySem.W.Frag} {Q : Bool → Hp → Prop} (h : tT K (fB f) σ H Q) : tE K f σ H fun x H' => ∃ k, x = .bl k ∧ Q k H' := by
  obtain ⟨C, O, M, env, st, d, env', st', fi, e, q⟩ := h
  refine ⟨C, O, M, env, st, .bl d, env', st', fi, fB_some e, fun v H' C' O' M' os g fi' r _ _ => ?_⟩
  obtain ⟨rfl, _⟩ := rv_bl r
  exact ⟨d, rfl, q H' C' O' M' g fi'⟩
theorem tp_tt {K : PySem.W.Frag} {Q : Bool → Hp → Prop} (h : tT K (fB f) σ H Q) : tP K f σ H fun x H' => ∃ k, x = .bl k ∧ Q k H' := by
  obtain ⟨C, O, M, env, st, d, env', st', fi, e, q⟩ := h
  refine ⟨C, O, M, env, st, .bl d, env', st', fi, fB_some e, fun v H' C' O' M' os g fi' r _ => ?_⟩
  obtain ⟨rfl, _⟩ := rv_bl r
  exact ⟨d, rfl, q H' C' O' M' g fi'⟩
theorem st_val (h : SP X ex f) (he : ∀ whole, isTrue ex X.env whole = (do let v ← whole; standAt ex.pos; holding [v] (truthy v)) := by intro _; rfl) : ST X ex (fB f) := pt_weak (pt_val h he) fun _ _ _ q => tp_tt q
theorem st_cmp {op : CmpOp} {r : R2} {g : Ms → D → D → Option D} (ho : OpR X (compareOp op) r) (hk : OpOk X.K r g) (ha : SP X a f1) (hb : SP X b f2) (hm : behindInMarks op b = false) : ST X (.Compare a [op] [b] pos) (fB (fBin g f1 f2)) :=
  pt_weak (pt_cmpR ho ha hb hm) fun _ _ _ h => te_bin hk (te_tt h)
/-- a < b < c -/
def fChain (g g' : Ms → D → D → Option D) (f1 f2 f3 : ES) : ES := fun env st => (f1 env st).bind fun x => (f2 x.2.1 x.2.2).bind fun y => (g y.2.2 x.1 y.1).bind fun z => match z with
  | .bl true => (f3 y.2.1 y.2.2).bind fun w => (g' w.2.2 y.1 w.1).map fun r => (r, w.2)
  | .bl false => some (.bl false, y.2)
  | _ => none
theorem te_chain {K : PySem.W.Frag} {r r' : R2} {g g' : Ms → D → D → Option D} (hk : OpOk K r g) (hk' : OpOk K r' g') {Q : VK} (h : tE K (fChain g g' f1 f2 f3) σ H Q) : tChain r r' (tP K f1) (tP K f2) (tP K f3) σ H Q := by
  obtain ⟨C, O, M, env, st, d, env', st', fi, e, q⟩ := h
  unfold fChain at e
  rw [Option.bind_eq_some_iff] at e
  obtain ⟨⟨a, env1, st1⟩, e1, e⟩ := e
  rw [Option.bind_eq_some_iff] at e
  obtain ⟨⟨b, env2, st2⟩, e2, e⟩ := e
  rw [Option.bind_eq_some_iff] at e
  obtain ⟨z, e3, e⟩ := e
  dsimp only at e e3 e2
  refine ⟨C, O, M, env, st, a, env1, st1, fi, e1, fun v1 H1 C1 O1 M1 o1 g1 fi1 r1 n1 => ⟨C1, O1, M1, env1, st1, b, env2, st2, fi1, e2, fun v2 H2 C2 O2 M2 o2 g2 fi2 r2 n2 => ?_⟩⟩
  have g12 := g1.trans fi.ci.tr g2
  refine hk C2 M2 H2 st2 v1 a o1 v2 b o2 z _ fi2.ci (g2.rv fi1.ci.mC r1 n1) r2 e3 fun v H3 M3 os gr rv nd hos => ?_
  split at e
  · obtain ⟨rfl, rfl⟩ := rv_bl rv
    refine ⟨true, rfl, ?_⟩
    rw [if_pos rfl]
    rw [Option.bind_eq_some_iff] at e
    obtain ⟨⟨c, env3, st3⟩, e4, e⟩ := e
    rw [Option.map_eq_some_iff] at e
    obtain ⟨u, e5, e⟩ := e
    cases e
    refine ⟨C2, O2, M3, env2, st2, c, env', st', gr.fi fi2, e4, fun v3 H4 C4 O4 M4 o3 g4 fi4 r4 n4 => ?_⟩
    exact hk' C4 M4 H4 _ v2 b o2 v3 c o3 d Q fi4.ci (g4.rv (gr.fi fi2).ci.mC (gr.rv r2) n2) r4 e5 (ans_of fi ((g12.trans fi.ci.tr gr.go).trans fi.ci.tr g4) fi4 q)
  · obtain ⟨rfl, rfl⟩ := rv_bl rv
    refine ⟨false, rfl, ?_⟩
    rw [if_neg (by decide)]
    cases e
    exact q (.bl false) H3 C2 O2 M3 [] (g12.trans fi.ci.tr gr.go) (gr.fi fi2) (.bl false) .nil fun a ha => nomatch ha
  · cases e
theorem se_chain {op op' : CmpOp} {r r' : R2} {g g' : Ms → D → D → Option D} (ho : OpR X (compareOp op) r) (hk : OpOk X.K r g) (ho' : OpR X (compareOp op') r') (hk' : OpOk X.K r' g') (ha : SP X a f1) (hb : SP X b f2) (hc : SP X c f3)
    (hm : lastMarks [op, op'] [b, c] = false := by with_unfolding_all rfl) : SE X (.Compare a [op, op'] [b, c] pos) (fChain g g' f1 f2 f3) := pe_weak (pe_chain ho ho' ha hb hc hm) fun _ _ _ h => te_chain hk hk' h
theorem st_chain {op op' : CmpOp} {r r' : R2} {g g' : Ms → D → D → Option D} (ho : OpR X (compareOp op) r) (hk : OpOk X.K r g) (ho' : OpR X (compareOp op') r') (hk' : OpOk X.K r' g') (ha : SP X a f1) (hb : SP X b f2) (hc : SP X c f3)
    (hm : lastMarks [op, op'] [b, c] = false := by with_unfolding_all rfl) : ST X (.Compare a [op, op'] [b, c] pos) (fB (fChain g g' f1 f2 f3)) := pt_weak (pt_chain ho ho' ha hb hc hm) fun _ _ _ h => te_chain hk hk' (te_tt h)
/-! ### and, or, not: tests -/
def bAnd (t u : BS) : BS := fun env st => (t env st).bind fun x => if x.1 = true then u x.2.1 x.2.2 else some (false, x.2)
def bOr (t u : BS) : BS := fun env st => (t env st).bind fun x => if x.1 = true then some (true, x.2) else u x.2.1 x.2.2
def bNot (t : BS) : BS := fun env st => (t env st).map fun x => (!x.1, x.2)
theorem SW.st (h : SW X ex t1) : ST X ex t1 := h.pt
theorem sw_and1 (h : ST X a t1) : SW X (.BoolOp .And [a] pos) t1 := pw_and1 h
theorem sw_or1 (h : ST X a t1) : SW X (.BoolOp .Or [a] pos) t1 := pw_or1 h
theorem tt_next {K : PySem.W.Frag} {C O C1 O1 : List Addr} {M M1 : Addr → Prop} {H1 : Hp} {env env1 env' : Env} {st st1 st' : Ms} {d : Bool} {Q : Bool → Hp → Prop} (fi : FI K C O M H σ env st) (g1 : Go False C O M H C1 O1 M1 H1) (fi1 : FI K C1 O1 M1 H1 σ env1 st1)
    (e : t2 env1 st1 = some (d, env', st')) (q : ∀ H' C' O' M', Go False C O M H C' O' M' H' → FI K C' O' M' H' σ env' st' → Q d H') : tT K t2 σ H1 Q :=
  ⟨C1, O1, M1, env1, st1, d, env', st', fi1, e, fun H2 C2 O2 M2 g2 fi2 => q H2 C2 O2 M2 (g1.trans fi.ci.tr g2) fi2⟩
theorem sw_and (ha : ST X a t1) (hb : SW X (.BoolOp .And (b :: rest) pos) t2) : SW X (.BoolOp .And (a :: b :: rest) pos) (bAnd t1 t2) := pw_weak (pw_and ha hb) fun σ H Q ⟨C, O, M, env, st, d, env', st', fi, e, q⟩ => by
  unfold bAnd at e
  rw [Option.bind_eq_some_iff] at e
  obtain ⟨⟨a, env1, st1⟩, e1, e⟩ := e
  refine ⟨C, O, M, env, st, a, env1, st1, fi, e1, fun H1 C1 O1 M1 g1 fi1 => ?_⟩
  dsimp only at e
  cases a with
  | true =>
    rw [if_pos rfl] at e ⊢
    exact tt_next fi g1 fi1 e q
  | false =>
    rw [if_neg (by decide)] at e ⊢
    cases e
    exact q H1 C1 O1 M1 g1 fi1
theorem sw_or (ha : ST X a t1) (hb : SW X (.BoolOp .Or (b :: rest) pos) t2) : SW X (.BoolOp .Or (a :: b :: rest) pos) (bOr t1 t2) := pw_weak (pw_or ha hb) fun σ H Q ⟨C, O, M, env, st, d, env', st', fi, e, q⟩ => by
  unfold bOr at e
  rw [Option.bind_eq_some_iff] at e
  obtain ⟨⟨a, env1, st1⟩, e1, e⟩ := e
  refine ⟨C, O, M, env, st, a, env1, st1, fi, e1, fun H1 C1 O1 M1 g1 fi1 => ?_⟩
  dsimp only at e
  cases a with
  | true =>
    rw [if_pos rfl] at e ⊢
    cases e
    exact q H1 C1 O1 M1 g1 fi1
  | false =>
    rw [if_neg (by decide)] at e ⊢
    exact tt_next fi g1 fi1 e q
theorem st_not (ha : ST X a t1) : ST X (.UnaryOp .Not a pos) (bNot t1) := pt_weak (pt_not ha) fun σ H Q ⟨C, O, M, env, st, d, env', st', fi, e, q⟩ => by
  unfold bNot at e
  rw [Option.map_eq_some_iff] at e
  obtain ⟨⟨a, env1, st1⟩, e1, e⟩ := e
  cases e
  exact ⟨C, O, M, env, st, a, env', st', fi, e1, fun H1 C1 O1 M1 g1 fi1 => q H1 C1 O1 M1 g1 fi1⟩
/-! ### .. as values -/
def fAnd (f1 f2 : ES) : ES := fun env st => (f1 env st).bind fun x => match x.1 with
  | .bl true => f2 x.2.1 x.2.2
  | .bl false => some (.bl false, x.2)
  | _ => none
def fOr (f1 f2 : ES) : ES := fun env st => (f1 env st).bind fun x => match x.1 with
  | .bl true => some (.bl true, x.2)
  | .bl false => f2 x.2.1 x.2.2
  | _ => none
def fNot (f1 : ES) : ES := fun env st => (f1 env st).bind fun x => match x.1 with
  | .bl b => some (.bl (!b), x.2)
  | _ => none
theorem te_next {K : PySem.W.Frag} {C O C1 O1 : List Addr} {M M1 : Addr → Prop} {H1 : Hp} {env env1 env' : Env} {st st1 st' : Ms} {d : D} {Q : VK} (fi : FI K C O M H σ env st) (g1 : Go False C O M H C1 O1 M1 H1) (fi1 : FI K C1 O1 M1 H1 σ env1 st1)
    (e : f2 env1 st1 = some (d, env', st')) (q : ∀ v H' C' O' M' os, Go False C O M H C' O' M' H' → FI K C' O' M' H' σ env' st' → RV K C' M' H' v d os → os.Nodup → (∀ a ∈ os, a ∉ C' ∧ a ∉ O' ∧ M' a ∧ (a ∈ O ∨ H a = none)) → Q v H') : tE K f2 σ H1 Q :=
  ⟨C1, O1, M1, env1, st1, d, env', st', fi1, e, fun v H2 C2 O2 M2 os g2 fi2 r nd n => q v H2 C2 O2 M2 os (g1.trans fi.ci.tr g2) fi2 r nd fun a ha => by
    obtain ⟨m1, m2, m3, m4⟩ := n a ha
    refine ⟨m1, m2, m3, ?_⟩
    rcases m4 with z | z
    · exact g1.ownd a z
    · exact .inr (g1.back a z)⟩
theorem se_one {op : BoolOp} (h : SE X a f1) : SE X (.BoolOp op [a] pos) f1 := pe_one h
theorem se_and (ha : SP X a f1) (hb : SE X (.BoolOp .And (b :: rest) pos) f2) : SE X (.BoolOp .And (a :: b :: rest) pos) (fAnd f1 f2) := pe_weak (pe_and ha hb) fun σ H Q ⟨C, O, M, env, st, d, env', st', fi, e, q⟩ => by
  unfold fAnd at e
  rw [Option.bind_eq_some_iff] at e
  obtain ⟨⟨a, env1, st1⟩, e1, e⟩ := e
  refine ⟨C, O, M, env, st, a, env1, st1, fi, e1, fun v1 H1 C1 O1 M1 o1 g1 fi1 r1 n1 => ?_⟩
  dsimp only at e
  split at e
  · obtain ⟨rfl, rfl⟩ := rv_bl r1
    refine ⟨true, rfl, ?_⟩
    rw [if_pos rfl]
    exact te_next fi g1 fi1 e q
  · obtain ⟨rfl, rfl⟩ := rv_bl r1
    refine ⟨false, rfl, ?_⟩
    rw [if_neg (by decide)]
    cases e
    exact q (.bl false) H1 C1 O1 M1 [] g1 fi1 (.bl false) .nil fun a ha => nomatch ha
  · cases e
theorem se_or (ha : SP X a f1) (hb : SE X (.BoolOp .Or (b :: rest) pos) f2) : SE X (.BoolOp .Or (a :: b :: rest) pos) (fOr f1 f2) := pe_weak (pe_or ha hb) fun σ H Q ⟨C, O, M, env, st, d, env', st', fi, e, q⟩ => by
  unfold fOr at e
  rw [Option.bind_eq_some_iff] at e
  obtain ⟨⟨a, env1, st1⟩, e1, e⟩ := e
  refine ⟨C, O, M, env, st, a, env1, st1, fi, e1, fun v1 H1 C1 O1 M1 o1 g1 fi1 r1 n1 => ?_⟩
  dsimp only at e
  split at e
  · obtain ⟨rfl, rfl⟩ := rv_bl r1
    refine ⟨true, rfl, ?_⟩
    rw [if_pos rfl]
    cases e
    exact q (.bl true) H1 C1 O1 M1 [] g1 fi1 (.bl true) .nil fun a ha => nomatch ha
  · obtain ⟨rfl, rfl⟩ := rv_bl r1
    refine ⟨false, rfl, ?_⟩
    rw [if_neg (by decide)]
    exact te_next fi g1 fi1 e q
  · cases e
theorem se_not (ha : SP X a f1) : SE X (.UnaryOp .Not a pos) (fNot f1) := pe_weak (pe_not ha) fun σ H Q ⟨C, O, M, env, st, d, env', st', fi, e, q⟩ => by
  unfold fNot at e
  rw [Option.bind_eq_some_iff] at e
  obtain ⟨⟨a, env1, st1⟩, e1, e⟩ := e
  refine ⟨C, O, M, env, st, a, env1, st1, fi, e1, fun v1 H1 C1 O1 M1 o1 g1 fi1 r1 n1 => ?_⟩
  dsimp only at e
  split at e
  · rename_i b
    cases e
    obtain ⟨rfl, rfl⟩ := rv_bl r1
    exact ⟨b, rfl, q (.bl (!b)) H1 C1 O1 M1 [] g1 fi1 (.bl _) .nil fun a ha => nomatch ha⟩
  · cases e
def fIf (t : BS) (f1 f2 : ES) : ES := fun env st => (t env st).bind fun x => if x.1 = true then f1 x.2.1 x.2.2 else f2 x.2.1 x.2.2
theorem se_if (hc : ST X c t1) (ha : SE X a f1) (hb : SE X b f2) : SE X (.IfExp c a b pos) (fIf t1 f1 f2) := pe_weak (pe_ifExp hc ha hb) fun σ H Q ⟨C, O, M, env, st, d, env', st', fi, e, q⟩ => by
  unfold fIf at e
  rw [Option.bind_eq_some_iff] at e
  obtain ⟨⟨a, env1, st1⟩, e1, e⟩ := e
  refine ⟨C, O, M, env, st, a, env1, st1, fi, e1, fun H1 C1 O1 M1 g1 fi1 => ?_⟩
  dsimp only at e
  cases a with
  | true =>
    rw [if_pos rfl] at e ⊢
    exact te_next fi g1 fi1 e q
  | false =>
    rw [if_neg (by decide)] at e ⊢
    exact te_next fi g1 fi1 e q
end
end Pv

/-! # PvE -/
set_option Elab.async false
set_option linter.all false
set_option maxHeartbeats 1000000
/-! statements -/
namespace Pv
open PySem L2
inductive Fl where
  | nx (env : Env) (st : Ms) | rt (d : D) (st : Ms) | bk (env : Env) (st : Ms) | ct (env : Env) (st : Ms)
abbrev SS := Env → Ms → Option Fl
def FlOk (K : PySem.W.Frag) (C O : List Addr) (M : Addr → Prop) (H : Hp) (N : Ends) : Fl → Prop
  | .nx env' st' => ∀ σ' H' C' O' M', Go True C O M H C' O' M' H' → FI K C' O' M' H' σ' env' st' → N.nx σ' H'
  | .bk env' st' => ∀ σ' H' C' O' M', Go True C O M H C' O' M' H' → FI K C' O' M' H' σ' env' st' → N.bk σ' H'
  | .ct env' st' => ∀ σ' H' C' O' M', Go True C O M H C' O' M' H' → FI K C' O' M' H' σ' env' st' → N.ct σ' H'
  | .rt d st' => ∀ v H' C' O' M' os, Go True C O M H C' O' M' H' → CI K C' M' H' st' → RV K C' M' H' v d os → os.Nodup → (∀ a ∈ os, a ∉ C' ∧ M' a ∧ (a ∈ O ∨ H a = none)) → N.rt v H'
def tS (K : PySem.W.Frag) (f : SS) : TS := fun N σ H => ∃ C O M env st r, FI K C O M H σ env st ∧ f env st = some r ∧ FlOk K C O M H N r
def SS1 (X : Cx) (s : Stmt) (f : SS) : Prop := PS X s (tS X.K f)
def SSs (X : Cx) (s : List Stmt) (f : SS) : Prop := PSs X s (tS X.K f)
section
variable {X : Cx} {K : PySem.W.Frag} {C C' O O' : List Addr} {M M' : Addr → Prop} {H H' : Hp} {st st' : Ms} {σ σ' : L2.St} {env env' : Env} {N : Ends} {r : Fl} {s : Stmt} {ss : List Stmt} {f g : SS} {fe : ES} {e c : Expr} {t : BS} {pos : Pos}
theorem FlOk.from (fi : FI K C O M H σ env st) (g1 : Go True C O M H C' O' M' H') (h : FlOk K C O M H N r) : FlOk K C' O' M' H' N r := by
  cases r with
  | nx env' st' => exact fun σ2 H2 C2 O2 M2 g2 fi2 => h σ2 H2 C2 O2 M2 (g1.trans fi.ci.tr g2) fi2
  | bk env' st' => exact fun σ2 H2 C2 O2 M2 g2 fi2 => h σ2 H2 C2 O2 M2 (g1.trans fi.ci.tr g2) fi2
  | ct env' st' => exact fun σ2 H2 C2 O2 M2 g2 fi2 => h σ2 H2 C2 O2 M2 (g1.trans fi.ci.tr g2) fi2
  | rt d st' =>
    refine fun v H2 C2 O2 M2 os g2 ci2 rv nd n => h v H2 C2 O2 M2 os (g1.trans fi.ci.tr g2) ci2 rv nd fun a ha => ?_
    obtain ⟨m1, m2, m3⟩ := n a ha
    refine ⟨m1, m2, ?_⟩
    rcases m3 with z | z
    · exact g1.ownd a z
    · exact .inr (g1.back a z)
def sNil : SS := fun env st => some (.nx env st)
def sSeq (f g : SS) : SS := fun env st => (f env st).bind fun r => match r with
  | .nx env st => g env st
  | r => some r
theorem ss_nil : SSs X [] sNil := pss_weak pss_nil fun N σ H ⟨C, O, M, env, st, r, fi, e, q⟩ => by
  cases e
  exact q σ H C O M .refl fi
theorem ss_cons (h1 : SS1 X s f) (h2 : SSs X ss g) : SSs X (s :: ss) (sSeq f g) := pss_weak (pss_cons h1 h2) fun N σ H ⟨C, O, M, env, st, r, fi, e, q⟩ => by
  unfold sSeq at e
  rw [Option.bind_eq_some_iff] at e
  obtain ⟨r1, e1, e⟩ := e
  refine ⟨C, O, M, env, st, r1, fi, e1, ?_⟩
  cases r1 with
  | nx env1 st1 => exact fun σ1 H1 C1 O1 M1 g1 fi1 => ⟨C1, O1, M1, env1, st1, r, fi1, e, q.from fi g1⟩
  | bk env1 st1 =>
    cases e
    exact q
  | ct env1 st1 =>
    cases e
    exact q
  | rt d st1 =>
    cases e
    exact q
theorem ss_one (h1 : SS1 X s f) : SSs X [s] f := pss_one h1
def sPass : SS := fun env st => some (.nx env st)
theorem s1_pass : SS1 X (.Pass pos) sPass := ps_weak ps_pass fun N σ H ⟨C, O, M, env, st, r, fi, e, q⟩ => by
  cases e
  exact q σ H C O M .refl fi
theorem s1_break : SS1 X (.Break pos) (fun env st => some (.bk env st)) := ps_weak ps_break fun N σ H ⟨C, O, M, env, st, r, fi, e, q⟩ => by
  cases e
  exact q σ H C O M .refl fi
theorem s1_cont : SS1 X (.Continue pos) (fun env st => some (.ct env st)) := ps_weak ps_continue fun N σ H ⟨C, O, M, env, st, r, fi, e, q⟩ => by
  cases e
  exact q σ H C O M .refl fi
/-- what is never reached -/
def sNo : SS := fun _ _ => none
theorem s1_no : SS1 X s sNo := ps_weak ps_never fun N σ H ⟨C, O, M, env, st, r, fi, e, q⟩ => by cases e
theorem ss_no : SSs X ss sNo := pss_weak pss_never fun N σ H ⟨C, O, M, env, st, r, fi, e, q⟩ => by cases e
def sDrop (f : ES) : SS := fun env st => (f env st).map fun x => .nx x.2.1 x.2.2
theorem s1_expr (h : SP X e fe) (hs : swapsWith e none pos.line X.env = pure false := by rfl) : SS1 X (.Expr e pos) (sDrop fe) := ps_weak (ps_expr h hs) fun N σ H ⟨C, O, M, env, st, r, fi, e, q⟩ => by
  unfold sDrop at e
  rw [Option.map_eq_some_iff] at e
  obtain ⟨⟨a, env1, st1⟩, e1, e⟩ := e
  cases e
  exact ⟨C, O, M, env, st, a, env1, st1, fi, e1, fun v H1 C1 O1 M1 o1 g1 fi1 r1 n1 => q σ H1 C1 O1 M1 g1.weak fi1⟩
def sRet (f : ES) : SS := fun env st => (f env st).map fun x => .rt x.1 x.2.2
theorem s1_ret (h : SE X e fe) : SS1 X (.Return (some e) pos) (sRet fe) := ps_weak (ps_ret h) fun N σ H ⟨C, O, M, env, st, r, fi, e, q⟩ => by
  unfold sRet at e
  rw [Option.map_eq_some_iff] at e
  obtain ⟨⟨a, env1, st1⟩, e1, e⟩ := e
  cases e
  exact ⟨C, O, M, env, st, a, env1, st1, fi, e1, fun v H1 C1 O1 M1 o1 g1 fi1 r1 nd n1 => q v H1 C1 O1 M1 o1 g1.weak fi1.ci r1 nd fun a ha => ⟨(n1 a ha).1, (n1 a ha).2.2⟩⟩
def sIf (t : BS) (f g : SS) : SS := fun env st => (t env st).bind fun x => if x.1 = true then f x.2.1 x.2.2 else g x.2.1 x.2.2
theorem s1_if {a b : List Stmt} (hc : ST X c t) (ha : SSs X a f) (hb : SSs X b g) : SS1 X (.If c a b pos) (sIf t f g) := ps_weak (ps_if hc ha hb) fun N σ H ⟨C, O, M, env, st, r, fi, e, q⟩ => by
  unfold sIf at e
  rw [Option.bind_eq_some_iff] at e
  obtain ⟨⟨a, env1, st1⟩, e1, e⟩ := e
  refine ⟨C, O, M, env, st, a, env1, st1, fi, e1, fun H1 C1 O1 M1 g1 fi1 => ?_⟩
  dsimp only at e
  cases a with
  | true =>
    rw [if_pos rfl] at e ⊢
    exact ⟨C1, O1, M1, env1, st1, r, fi1, e, q.from fi g1.weak⟩
  | false =>
    rw [if_neg (by decide)] at e ⊢
    exact ⟨C1, O1, M1, env1, st1, r, fi1, e, q.from fi g1.weak⟩

/-! ### stores to names -/
theorem FI.set {i : Nat} {v : V} {d : D} {os : List Addr} (fi : FI K C O M H σ env st) (hi : i < env.length) (r : RV K C M H v d os) (nd : os.Nodup) (n : ∀ a ∈ os, a ∉ C ∧ a ∉ O ∧ M a) :
    ∃ O', FI K C O' M H (σ.set i (some v)) (env.set i (some d)) st ∧ ∀ a ∈ O', a ∈ O ∨ a ∈ os := by
  obtain ⟨O1, o0, O2, eo, z⟩ := fi.sl.set hi r
  have od := fi.od
  rw [eo] at od
  obtain ⟨n1, n2, n3⟩ := nd3 od
  have sub : ∀ a ∈ O1 ++ O2, a ∈ O := fun a ha => by
    rw [eo]
    exact sub3 ha
  have mem : ∀ a ∈ O1 ++ (os ++ O2), a ∈ O1 ++ O2 ∨ a ∈ os := fun a ha => by
    rcases List.mem_append.mp ha with h | h
    · exact .inl (List.mem_append_left _ h)
    · rcases List.mem_append.mp h with h | h
      · exact .inr h
      · exact .inl (List.mem_append_right _ h)
  refine ⟨O1 ++ (os ++ O2), ⟨fi.ci, z, ?_, fun a ha => ?_, fun a ha => ?_⟩, fun a ha => (mem a ha).imp (sub a) id⟩
  · rw [List.nodup_append] at n1 ⊢
    obtain ⟨m1, m2, m3⟩ := n1
    refine ⟨m1, ?_, fun a ha b hb z => ?_⟩
    · rw [List.nodup_append]
      exact ⟨nd, m2, fun a ha b hb z => (n a ha).2.1 (sub a (List.mem_append_right _ (z ▸ hb)))⟩
    · subst z
      rcases List.mem_append.mp hb with h | h
      · exact (n a h).2.1 (sub a (List.mem_append_left _ ha))
      · exact m3 a ha a h rfl
  · rcases mem a ha with h | h
    · exact fi.oc a (sub a h)
    · exact (n a h).1
  · rcases mem a ha with h | h
    · exact fi.mO a (sub a h)
    · exact (n a h).2.2
def sAsg (i : Nat) (f : ES) : SS := fun env st => (f env st).bind fun x => if i < x.2.1.length then some (.nx (x.2.1.set i (some x.1)) x.2.2) else none
theorem ts_asg {i : Nat} {te : TE} (i1 : ∀ σ H Q, tE K fe σ H Q → te σ H Q) (h : tS K (sAsg i fe) N σ H) : tAsg te (gName i) N σ H := by
  obtain ⟨C, O, M, env, st, r, fi, e, q⟩ := h
  unfold sAsg at e
  rw [Option.bind_eq_some_iff] at e
  obtain ⟨⟨a, env1, st1⟩, e1, e⟩ := e
  split at e
  · rename_i hi
    cases e
    refine i1 σ H _ ⟨C, O, M, env, st, a, env1, st1, fi, e1, fun v H1 C1 O1 M1 o1 g1 fi1 r1 nd n1 => ?_⟩
    obtain ⟨O2, fi2, m2⟩ := fi1.set hi r1 nd fun a ha => ⟨(n1 a ha).1, (n1 a ha).2.1, (n1 a ha).2.2.1⟩
    refine q (σ.set i (some v)) H1 C1 O2 M1 ⟨fun a o h1 _ h3 => g1.keep a o h1 (fun z => z.elim) h3, g1.pre, g1.weak.newc, g1.fresh, g1.forn, fun a ha => ?_, g1.back⟩ fi2
    rcases m2 a ha with z | z
    · exact g1.ownd a z
    · exact (n1 a z).2.2.2
  · cases e
theorem s1_asg {i : Nat} {x : Str} {pos' : Pos} (hN : X.N.Nodup) (hi : X.N[i]? = some x) (hx : Loc X.env.scope x) (he : SE X e fe) (hs : swapsWith e (some (.Name x pos')) pos.line X.env = pure false := by rfl)
    (hf : X.fn x = true ∨ X.env.scope.names.lookup x = some .local := by first | exact .inl rfl | exact .inr rfl | assumption) : SS1 X (.Assign [.Name x pos'] e pos) (sAsg i fe) := ps_weak (ps_set hN hi hx he hs hf) fun _ _ _ h => ts_asg (fun _ _ _ q => q) h
end
end Pv

/-! # PvF -/
set_option Elab.async false
set_option linter.all false
set_option maxHeartbeats 1000000
/-! lists that are changed in place -/
namespace Pv
open PySem L2
mutual
def D.nc : D → Bool
  | .cell _ => false
  | .own l => D.ncs l
  | .tup l => D.ncs l
  | .lst l => D.ncs l
  | .non => true | .bl _ => true | .int _ => true | .str _ => true | .scr _ => true
def D.ncs : List D → Bool
  | [] => true
  | d :: l => d.nc && D.ncs l
end
section
variable {X : Cx} {K : PySem.W.Frag} {C C' O O' : List Addr} {M M' : Addr → Prop} {H H' : Hp} {st st' : Ms} {σ σ' : L2.St} {env env' : Env} {N : Ends} {f g : SS} {fe fi2 : ES} {e c : Expr} {pos : Pos}
mutual
theorem RV.free : ∀ {v : V} {d : D} {os : List Addr}, RV K C M H v d os → d.nc = true → RV K C' M H v d os
  | _, _, _, .non, _ => .non
  | _, _, _, .bl b, _ => .bl b
  | _, _, _, .int i, _ => .int i
  | _, _, _, .str s, _ => .str s
  | _, _, _, .tup h r, q => .tup h (r.free (by simpa only [D.nc] using q))
  | _, _, _, .lst h r, q => .lst h (r.free (by simpa only [D.nc] using q))
  | _, _, _, .own h r, q => .own h (r.free (by simpa only [D.nc] using q))
  | _, _, _, .cell h, q => by simp only [D.nc] at q; cases q
  | _, _, _, .scr h, _ => .scr h
theorem RVs.free : ∀ {vs : List V} {ds : List D} {os : List Addr}, RVs K C M H vs ds os → D.ncs ds = true → RVs K C' M H vs ds os
  | _, _, _, .nil, _ => .nil
  | _, _, _, .cons h r, q => by
    simp only [D.ncs, Bool.and_eq_true] at q
    exact .cons (h.free q.1) (r.free q.2)
end
/-- a list of this frame's own is written -/
theorem CI.wr (ci : CI K C M H st) {p : Addr} {xs : List V} (hp : p ∉ C) (hm : M p) : CI K C M (upd H p (.lst xs)) st :=
  ⟨ci.len, fun i ds q e1 e2 => by
    obtain ⟨ys, h, r⟩ := ci.at_ i ds q e1 e2
    have nq : q ≠ p := fun z => hp (z ▸ List.mem_of_getElem? e2)
    exact ⟨ys, by rw [upd_ne nq]; exact h, r.mono (fun _ _ e => e) (fun a o h e => by rw [upd_ne (fun z => h (by rw [z]; exact hm))]; exact e) (fun _ _ h _ => h) fun _ z => nomatch z⟩, ci.nd, ci.mC, fun a h => by
    by_cases z : a = p
    · exact ⟨_, by rw [z]; exact upd_same⟩
    · obtain ⟨o, w⟩ := ci.tr a h
      exact ⟨o, by rw [upd_ne z]; exact w⟩⟩
theorem FI.wr (fi : FI K C O M H σ env st) {i : Nat} {d : D} (e : env[i]? = some (some d)) :
    ∃ v o, σ[i]? = some (some v) ∧ RV K C M H v d o ∧ (∀ a ∈ o, a ∈ O) ∧ o.Nodup ∧ ∀ (p : Addr) (xs : List V) (d' : D) (o' : List Addr), p ∈ o → (∀ a ∈ o', a ∈ o ∨ (a ∉ C ∧ a ∉ O ∧ M a)) → o'.Nodup → RV K C M (upd H p (.lst xs)) v d' o' →
      ∃ O', FI K C O' M (upd H p (.lst xs)) σ (env.set i (some d')) st ∧ ∀ a ∈ O', a ∈ O ∨ a ∈ o' := by
  obtain ⟨v, o, e1, r, O1, O2, eo, z⟩ := fi.sl.get e
  have od := fi.od
  rw [eo] at od
  obtain ⟨n1, n2, n3⟩ := nd3 od
  have sub : ∀ a ∈ O1 ++ O2, a ∈ O := fun a ha => by
    rw [eo]
    exact sub3 ha
  have mid : ∀ a ∈ o, a ∈ O := fun a ha => by
    rw [eo]
    exact List.mem_append_right _ (List.mem_append_left _ ha)
  refine ⟨v, o, e1, r, mid, n2, fun p xs d' o' hp ho' nd rv => ⟨O1 ++ (o' ++ O2), ?_, ?_⟩⟩
  · have mp : M p := fi.mO p (mid p hp)
    have z2 := (z C M (upd H p (.lst xs)) (fun _ _ e => e) (fun a o h e => by rw [upd_ne (fun w => h (by rw [w]; exact mp))]; exact e) (fun _ _ h _ => h) (fun a ha o e => by rw [upd_ne (fun w => n3 p hp (by rw [← w]; exact ha))]; exact e)).2 d' o' rv
    have mem : ∀ a ∈ O1 ++ (o' ++ O2), a ∈ O1 ++ O2 ∨ a ∈ o' := fun a ha => by
      rcases List.mem_append.mp ha with h | h
      · exact .inl (List.mem_append_left _ h)
      · rcases List.mem_append.mp h with h | h
        · exact .inr h
        · exact .inl (List.mem_append_right _ h)
    have dis : ∀ a ∈ o', a ∉ O1 ++ O2 := fun a ha w => by
      rcases ho' a ha with h | h
      · exact n3 a h w
      · exact h.2.1 (sub a w)
    refine ⟨fi.ci.wr (fi.oc p (mid p hp)) mp, z2, ?_, fun a ha => ?_, fun a ha => ?_⟩
    · rw [List.nodup_append] at n1 ⊢
      obtain ⟨m1, m2, m3⟩ := n1
      refine ⟨m1, ?_, fun a ha b hb w => ?_⟩
      · rw [List.nodup_append]
        exact ⟨nd, m2, fun a ha b hb w => dis a ha (List.mem_append_right _ (w ▸ hb))⟩
      · subst w
        rcases List.mem_append.mp hb with h | h
        · exact dis a h (List.mem_append_left _ ha)
        · exact m3 a ha a h rfl
    · rcases mem a ha with h | h
      · exact fi.oc a (sub a h)
      · rcases ho' a h with w | w
        · exact fi.oc a (mid a w)
        · exact w.1
    · rcases mem a ha with h | h
      · exact fi.mO a (sub a h)
      · rcases ho' a h with w | w
        · exact fi.mO a (mid a w)
        · exact w.2.2
  · intro a ha
    rcases List.mem_append.mp ha with h | h
    · exact .inl (sub a (List.mem_append_left _ h))
    · rcases List.mem_append.mp h with h | h
      · exact .inr h
      · exact .inl (sub a (List.mem_append_right _ h))
theorem Go.wr {C1 O1 O2 : List Addr} {M1 : Addr → Prop} {H1 : Hp} {p : Addr} {o : HO} (g : Go False C O M H C1 O1 M1 H1) (hp : p ∈ O1) (hO : ∀ a ∈ O2, a ∈ O ∨ H a = none) : Go True C O M H C1 O2 M1 (upd H1 p o) where
  keep := fun a u h1 h2 e => by
    rw [upd_ne fun z => ?_]
    · exact g.keep a u h1 (fun z => z.elim) e
    · subst z
      rcases g.ownd _ hp with w | w
      · exact h2 trivial w
      · rw [e] at w; cases w
  pre := g.pre
  newc := g.weak.newc
  fresh := g.fresh
  forn := g.forn
  ownd := hO
  back := fun a h => by
    by_cases z : a = p
    · subst z
      rw [upd_same] at h; cases h
    · rw [upd_ne z] at h
      exact g.back a h

/-- x.append(e) -/
def sApp (i : Nat) (f : ES) : SS := fun env st => match env[i]? with
  | some (some (.own _)) => (f env st).bind fun x => match x.2.1[i]? with
    | some (some (.own ds)) => if ds.length < BIG then some (.nx (x.2.1.set i (some (.own (ds ++ [x.1])))) x.2.2) else none
    | _ => none
  | _ => none
theorem ts_app {i : Nat} (h : tS X.K (sApp i fe) N σ H) : tDrop (tBM X.K "list" rAppend (tVar i) (tCons (tE X.K fe) tNil)) N σ H := by
  obtain ⟨C, O, M, env, st, r, fi, e, q⟩ := h
  unfold sApp at e
  split at e
  · rename_i ds0 e0
    rw [Option.bind_eq_some_iff] at e
    obtain ⟨⟨a, env1, st1⟩, e1, e⟩ := e
    dsimp only at e
    split at e
    · rename_i ds1 e2
      split at e
      · rename_i hb
        cases e
        obtain ⟨v, o, s1, r0, _, _, _⟩ := fi.wr e0
        cases r0 with
        | @own p xs0 _ o0 hp r0 =>
          refine ⟨.ref p, s1, .inl ⟨rfl, xs0, SqL.of hp⟩, C, O, M, env, st, a, env1, st1, fi, e1, fun y H1 C1 O1 M1 os g1 fi1 r1 nd n1 => ?_⟩
          obtain ⟨v2, o2, s2, r2, sub2, nd2, w⟩ := fi1.wr e2
          have ev : v2 = .ref p := by
            rw [s1] at s2
            exact (Option.some.inj (Option.some.inj s2)).symm
          subst ev
          cases r2 with
          | @own _ xs1 _ o1 hp1 r2 =>
            have mp : M1 p := fi1.mO p (sub2 p (List.mem_cons_self ..))
            obtain ⟨np, nd3⟩ := List.nodup_cons.mp nd2
            have npos : p ∉ os := fun z => (n1 p z).2.1 (sub2 p (List.mem_cons_self ..))
            have k1 : ∀ a o, ¬ M1 a → H1 a = some o → upd H1 p (.lst (xs1 ++ [y])) a = some o := fun a o h e => by rw [upd_ne (fun z => h (by rw [z]; exact mp))]; exact e
            have ra : RVs X.K C1 M1 (upd H1 p (.lst (xs1 ++ [y]))) (xs1 ++ [y]) (ds1 ++ [a]) (o1 ++ os) :=
              (r2.mono (fun _ _ e => e) k1 (fun _ _ h _ => h) fun x hx o e => by rw [upd_ne (fun z => np (by rw [← z]; exact hx))]; exact e).app
                (RVs.one (r1.mono (fun _ _ e => e) k1 (fun _ _ h _ => h) fun x hx o e => by rw [upd_ne (fun z => npos (by rw [← z]; exact hx))]; exact e))
            obtain ⟨O2, fi2, m2⟩ := w p (xs1 ++ [y]) (.own (ds1 ++ [a])) (p :: (o1 ++ os)) (List.mem_cons_self ..) (fun x hx => by
              rcases List.mem_cons.mp hx with z | z
              · exact .inl (z ▸ List.mem_cons_self ..)
              · rcases List.mem_append.mp z with z | z
                · exact .inl (List.mem_cons_of_mem _ z)
                · exact .inr ⟨(n1 x z).1, (n1 x z).2.1, (n1 x z).2.2.1⟩) (by
              refine List.nodup_cons.mpr ⟨fun z => ?_, ?_⟩
              · rcases List.mem_append.mp z with z | z
                · exact np z
                · exact npos z
              · rw [List.nodup_append]
                refine ⟨nd3, nd, fun x hx u hu z => ?_⟩
                subst z
                exact (n1 x hu).2.1 (sub2 x (List.mem_cons_of_mem _ hx))) (.own upd_same ra)
            refine ⟨p, xs1, y, rfl, rfl, hp1, by rw [r2.len]; exact Nat.lt_of_lt_of_le hb (by decide), ?_⟩
            refine q σ _ C1 O2 M1 (g1.wr (sub2 p (List.mem_cons_self ..)) fun x hx => ?_) fi2
            rcases m2 x hx with z | z
            · exact g1.ownd x z
            · rcases List.mem_cons.mp z with z | z
              · exact g1.ownd x (z ▸ sub2 p (List.mem_cons_self ..))
              · rcases List.mem_append.mp z with z | z
                · exact g1.ownd x (sub2 x (List.mem_cons_of_mem _ z))
                · exact (n1 x z).2.2.2
      · cases e
    · cases e
  · cases e
theorem s1_app {i : Nat} {x : Str} {p1 p2 cpos : Pos} (hr : PE X (.Name x p1) (tVar i)) (he : SE X e fe) (hbase : attributeBase (.Name x p1) "append" X.env (eval (.Name x p1) X.env) = eval (.Name x p1) X.env := by rfl)
    (hfew : ((backTo cpos (starEach [e] X.env)).all (fun x => !x.1) && (backToKw cpos (keywordEach [] X.env)).all (fun x => x.1.isSome)
      && decide ([e].length + ([] : List Keyword).length + (if ([] : List Keyword).isEmpty then 0 else 1) < 30)) = true := by rfl)
    (hline : (p2.endLine == cpos.line) = true := by rfl) (hs : starEach [e] X.env = (false, eval e X.env) :: starEach [] X.env := by rfl) (hplain : (backTo cpos (starEach [] X.env)).any (·.1) = false := by rfl) :
    SS1 X (.Expr (.Call (.Attribute (.Name x p1) "append" p2) [e] [] cpos) pos) (sApp i fe) :=
  ps_weak (ps_expr (pe_bm PySem.F.plainAttrs_list PySem.F.slot_list_append PySem.F.type_list_append mt_append hr (pa_cons he pa_nil hs) hbase hfew hline hs hplain)) fun _ _ _ h => ts_app h
/-- x.extend(e) -/
def sExt (i : Nat) (f : ES) : SS := fun env st => match env[i]? with
  | some (some (.own _)) => (f env st).bind fun x => match x.2.1[i]?, x.1 with
    | some (some (.own ds)), .lst es => if ds.length + es.length ≤ BIG then some (.nx (x.2.1.set i (some (.own (ds ++ es)))) x.2.2) else none
    | _, _ => none
  | _ => none
theorem ts_ext {i : Nat} (h : tS X.K (sExt i fe) N σ H) : tDrop (tBM X.K "list" rExtend (tVar i) (tCons (tZ X.K fe) tNil)) N σ H := by
  obtain ⟨C, O, M, env, st, r, fi, e, q⟩ := h
  unfold sExt at e
  split at e
  · rename_i ds0 e0
    rw [Option.bind_eq_some_iff] at e
    obtain ⟨⟨a, env1, st1⟩, e1, e⟩ := e
    dsimp only at e
    split at e
    · rename_i ds1 es e2
      split at e
      · rename_i hb
        cases e
        obtain ⟨v, o, s1, r0, _, _, _⟩ := fi.wr e0
        cases r0 with
        | @own p xs0 _ o0 hp r0 =>
          refine ⟨.ref p, s1, .inl ⟨rfl, xs0, SqL.of hp⟩, C, O, M, env, st, .lst es, env1, st1, fi, e1, fun y H1 C1 O1 M1 g1 fi1 r1 => ?_⟩
          obtain ⟨v2, o2, s2, r2, sub2, nd2, w⟩ := fi1.wr e2
          have ev : v2 = .ref p := by
            rw [s1] at s2
            exact (Option.some.inj (Option.some.inj s2)).symm
          subst ev
          cases r2 with
          | @own _ xs1 _ o1 hp1 r2 =>
          cases r1 with
          | @lst b zs _ hz r1 =>
            have mp : M1 p := fi1.mO p (sub2 p (List.mem_cons_self ..))
            obtain ⟨np, nd3⟩ := List.nodup_cons.mp nd2
            have k1 : ∀ a o, ¬ M1 a → H1 a = some o → upd H1 p (.lst (xs1 ++ zs)) a = some o := fun a o h e => by rw [upd_ne (fun z => h (by rw [z]; exact mp))]; exact e
            have ra : RVs X.K C1 M1 (upd H1 p (.lst (xs1 ++ zs))) (xs1 ++ zs) (ds1 ++ es) (o1 ++ []) :=
              (r2.mono (fun _ _ e => e) k1 (fun _ _ h _ => h) fun x hx o e => by rw [upd_ne (fun z => np (by rw [← z]; exact hx))]; exact e).app
                (r1.mono (fun _ _ e => e) k1 (fun _ _ h _ => h) fun x hx o e => nomatch hx)
            rw [List.append_nil] at ra
            obtain ⟨O2, fi2, m2⟩ := w p (xs1 ++ zs) (.own (ds1 ++ es)) (p :: o1) (List.mem_cons_self ..) (fun x hx => .inl hx) nd2 (.own upd_same ra)
            refine ⟨p, b, xs1, zs, rfl, rfl, hp1, hz.1, by rw [r2.len, r1.len]; exact Nat.le_trans hb (by decide), ?_⟩
            refine q σ _ C1 O2 M1 (g1.wr (sub2 p (List.mem_cons_self ..)) fun x hx => ?_) fi2
            rcases m2 x hx with z | z
            · exact g1.ownd x z
            · exact g1.ownd x (sub2 x z)
      · cases e
    · cases e
  · cases e
theorem s1_ext {i : Nat} {x : Str} {p1 p2 cpos : Pos} (hr : PE X (.Name x p1) (tVar i)) (he : SZ X e fe) (hbase : attributeBase (.Name x p1) "extend" X.env (eval (.Name x p1) X.env) = eval (.Name x p1) X.env := by rfl)
    (hfew : ((backTo cpos (starEach [e] X.env)).all (fun x => !x.1) && (backToKw cpos (keywordEach [] X.env)).all (fun x => x.1.isSome)
      && decide ([e].length + ([] : List Keyword).length + (if ([] : List Keyword).isEmpty then 0 else 1) < 30)) = true := by rfl)
    (hline : (p2.endLine == cpos.line) = true := by rfl) (hs : starEach [e] X.env = (false, eval e X.env) :: starEach [] X.env := by rfl) (hplain : (backTo cpos (starEach [] X.env)).any (·.1) = false := by rfl) :
    SS1 X (.Expr (.Call (.Attribute (.Name x p1) "extend" p2) [e] [] cpos) pos) (sExt i fe) :=
  ps_weak (ps_expr (pe_bm PySem.F.plainAttrs_list PySem.F.slot_list_extend PySem.F.type_list_extend mt_extend hr (pa_cons he pa_nil hs) hbase hfew hline hs hplain)) fun _ _ _ h => ts_ext h

/-! ### x += e, of ints -/
def sAug (i : Nat) (g : Int → Int → Int) (f : ES) : SS := fun env st => match env[i]? with
  | some (some (.int a)) => (f env st).bind fun x => match x.1 with
    | .int b => if i < x.2.1.length then some (.nx (x.2.1.set i (some (.int (g a b)))) x.2.2) else none
    | _ => none
  | _ => none
theorem ts_aug {i : Nat} {g : Int → Int → Int} (h : tS K (sAug i g fe) N σ H) : tAug i (tP K fe) (ipI g) N σ H := by
  obtain ⟨C, O, M, env, st, r, fi, e, q⟩ := h
  unfold sAug at e
  split at e
  · rename_i a0 e0
    rw [Option.bind_eq_some_iff] at e
    obtain ⟨⟨a, env1, st1⟩, e1, e⟩ := e
    dsimp only at e
    split at e
    · rename_i b
      split at e
      · rename_i hi
        cases e
        obtain ⟨v, o, s1, r0, _⟩ := fi.sl.get e0
        cases r0
        refine ⟨.int a0, s1, C, O, M, env, st, .int b, env1, st1, fi, e1, fun y H1 C1 O1 M1 os g1 fi1 r1 n1 => ?_⟩
        cases r1
        obtain ⟨O2, fi2, m2⟩ := fi1.set hi (.int (g a0 b)) .nil fun a ha => nomatch ha
        refine ⟨a0, b, rfl, rfl, q _ H1 C1 O2 M1 ⟨fun a o h1 _ h3 => g1.keep a o h1 (fun z => z.elim) h3, g1.pre, g1.weak.newc, g1.fresh, g1.forn, fun a ha => ?_, g1.back⟩ fi2⟩
        rcases m2 a ha with z | z
        · exact g1.ownd a z
        · exact nomatch z
      · cases e
    · cases e
  · cases e
theorem s1_aug {i : Nat} {x : Str} {op : Operator} {g : Int → Int → Int} {pos' : Pos} (hN : X.N.Nodup) (hi : X.N[i]? = some x) (hx : Loc X.env.scope x) (he : SP X e fe) (ho : PIp X op (ipI g))
    (hf : X.fn x = true ∨ X.env.scope.names.lookup x = some .local := by first | exact .inl rfl | exact .inr rfl | assumption) : SS1 X (.AugAssign (.Name x pos') op e pos) (sAug i g fe) := ps_weak (ps_aug hN hi hx he ho hf) fun _ _ _ h => ts_aug h

/-! ### cells -/
theorem CI.set (ci : CI K C M H st) {c : Nat} {p : Addr} {ds : List D} {xs : List V} (h1 : st[c]? = some ds) (h2 : C[c]? = some p) (r : RVs K [] M (upd H p (.lst xs)) xs ds' []) : CI K C M (upd H p (.lst xs)) (st.set c ds') :=
  ⟨by rw [List.length_set]; exact ci.len, fun i es q e1 e2 => by
    by_cases hi : i = c
    · subst hi
      rw [List.getElem?_set_self (List.getElem?_eq_some_iff.mp h1).1] at e1
      cases e1
      rw [h2] at e2
      cases e2
      exact ⟨xs, upd_same, r⟩
    · rw [List.getElem?_set_ne (Ne.symm hi)] at e1
      obtain ⟨ys, h, r⟩ := ci.at_ i es q e1 e2
      have nq : q ≠ p := fun z => by
        subst z
        obtain ⟨l1, w1⟩ := List.getElem?_eq_some_iff.mp e2
        obtain ⟨l2, w2⟩ := List.getElem?_eq_some_iff.mp h2
        exact hi ((List.getElem_inj ci.nd).mp (w1.trans w2.symm))
      exact ⟨ys, by rw [upd_ne nq]; exact h, r.mono (fun _ _ e => e) (fun a o h e => by rw [upd_ne (fun z => h (by rw [z]; exact ci.mC p (List.mem_of_getElem? h2)))]; exact e) (fun _ _ h _ => h) fun _ z => nomatch z⟩, ci.nd, ci.mC, fun a h => by
    by_cases z : a = p
    · exact ⟨_, by rw [z]; exact upd_same⟩
    · obtain ⟨o, w⟩ := ci.tr a h
      exact ⟨o, by rw [upd_ne z]; exact w⟩⟩
/-- cell[k] = e -/
def setCell (c : Nat) (d : D) (k : D) (env : Env) (st : Ms) : Option Fl := match k, st[c]? with
  | .int k, some ds => (ixN ds.length k).bind fun j => if d.nc = true then some (.nx env (st.set c (ds.set j d))) else none
  | _, _ => none
def sSetC (i : Nat) (fk : ES) (f : ES) : SS := fun env st => (f env st).bind fun x => match x.2.1[i]? with
  | some (some (.cell c)) => (fk x.2.1 x.2.2).bind fun y => setCell c x.1 y.1 y.2.1 y.2.2
  | _ => none
theorem ts_setc {i : Nat} {fk : ES} (h : tS K (sSetC i fk fe) N σ H) : tAsg (tZ K fe) (gSub (tVar i) (tP K fk) rSetL) N σ H := by
  obtain ⟨C, O, M, env, st, r, fi, e, q⟩ := h
  unfold sSetC at e
  rw [Option.bind_eq_some_iff] at e
  obtain ⟨⟨a, env1, st1⟩, e1, e⟩ := e
  dsimp only at e
  split at e
  · rename_i c e3
    rw [Option.bind_eq_some_iff] at e
    obtain ⟨⟨b, env2, st2⟩, e2, e⟩ := e
    dsimp only at e
    unfold setCell at e
    split at e
    · rename_i k ds e4
      rw [Option.bind_eq_some_iff] at e
      obtain ⟨j, e5, e⟩ := e
      split at e
      · rename_i hnc
        cases e
        refine ⟨C, O, M, env, st, a, env1, st1, fi, e1, fun y H1 C1 O1 M1 g1 fi1 r1 => ?_⟩
        obtain ⟨v, o, s1, r0, _⟩ := fi1.sl.get e3
        cases r0 with
        | @cell p _ hc =>
          refine ⟨.ref p, s1, C1, O1, M1, env1, st1, .int k, env2, st2, fi1, e2, fun z H2 C2 O2 M2 os g2 fi2 r2 n2 => ?_⟩
          cases r2
          have hc2 : C2[c]? = some p := g2.cat c p hc
          obtain ⟨xs, hp, rs⟩ := fi2.ci.at_ c ds p e4 hc2
          have hm : M2 p := fi2.ci.mC p (List.mem_of_getElem? hc2)
          have k1 : ∀ a o, ¬ M2 a → H2 a = some o → upd H2 p (.lst (xs.set j y)) a = some o := fun a o h e => by rw [upd_ne (fun z => h (by rw [z]; exact hm))]; exact e
          have ry : RV K [] M2 H2 y a [] := (g2.rv fi1.ci.mC r1 fun a ha => nomatch ha).free hnc
          have rr : RVs K [] M2 (upd H2 p (.lst (xs.set j y))) (xs.set j y) (ds.set j a) [] :=
            (rs.set0 ry j rfl).mono (fun _ _ e => e) k1 (fun _ _ h _ => h) fun _ z => nomatch z
          refine ⟨p, xs, k, j, rfl, rfl, hp, by rw [rs.len]; exact e5, ?_⟩
          have pO : p ∉ O2 := fun z => fi2.oc p z (List.mem_of_getElem? hc2)
          have g12 := g1.trans fi.ci.tr g2
          refine q σ _ C2 O2 M2 ⟨fun x o h1 _ h3 => ?_, g12.pre, g12.weak.newc, g12.fresh, g12.forn, g12.ownd, fun x hx => ?_⟩ ⟨fi2.ci.set e4 hc2 rr, fi2.sl.mono (fun _ _ e => e) k1 (fun _ _ h _ => h) fun x hx o e => by rw [upd_ne fun z => pO (by rw [← z]; exact hx)]; exact e, fi2.od, fi2.oc, fi2.mO⟩
          · rw [upd_ne fun z => ?_]
            · exact g12.keep x o h1 (fun z => z.elim) h3
            · subst z
              rcases g12.newc0 _ (List.mem_of_getElem? hc2) with w | w
              · exact h1 w
              · rw [h3] at w; cases w
          · by_cases z : x = p
            · subst z
              rw [upd_same] at hx; cases hx
            · rw [upd_ne z] at hx
              exact g12.back x hx
      · cases e
    · cases e
  · cases e
theorem s1_setc {i : Nat} {x : Str} {p1 p2 : Pos} {k : Expr} {fk : ES} (he : SZ X e fe) (hr : PE X (.Name x p1) (tVar i)) (hk : SP X k fk) (ha : ∀ v, assign (.Subscript (.Name x p1) k p2) X.env v = (do
      let ov ← holding [v] (eval (.Name x p1) X.env)
      let iv ← holding [v, ov] (eval k X.env)
      standAt p2
      holding [v, ov, iv] (setItem ov iv v)
      release [v, ov, iv] []) := by intro _; rfl) (hs : swapsWithSole [.Subscript (.Name x p1) k p2] e pos.line X.env = pure false := by rfl) (hw : swappedStores [.Subscript (.Name x p1) k p2] e X.env = pure none := by rfl)
    (h1 : (assignEach [.Subscript (.Name x p1) k p2] X.env).map (·.2) = [assign (.Subscript (.Name x p1) k p2) X.env] := by rfl) : SS1 X (.Assign [.Subscript (.Name x p1) k p2] e pos) (sSetC i fk fe) :=
  ps_weak (ps_asg he (pg_sub hr hk set_list ha) hs hw h1) fun _ _ _ h => ts_setc h
/-- x = e, e a new list that becomes a cell -/
def sCell (i : Nat) (f : ES) : SS := fun env st => (f env st).bind fun x => match x.1 with
  | .own ds => if i < x.2.1.length ∧ D.ncs (D.fzs ds) = true then some (.nx (x.2.1.set i (some (.cell x.2.2.length))) (x.2.2 ++ [D.fzs ds])) else none
  | _ => none
theorem ts_cell {i : Nat} (h : tS K (sCell i fe) N σ H) : tAsg (tE K fe) (gName i) N σ H := by
  obtain ⟨C, O, M, env, st, r, fi, e, q⟩ := h
  unfold sCell at e
  rw [Option.bind_eq_some_iff] at e
  obtain ⟨⟨a, env1, st1⟩, e1, e⟩ := e
  dsimp only at e
  split at e
  · rename_i ds
    split at e
    · rename_i hi
      cases e
      refine ⟨C, O, M, env, st, .own ds, env1, st1, fi, e1, fun v H1 C1 O1 M1 os g1 fi1 r1 nd n1 => ?_⟩
      cases r1 with
      | @own p xs _ o1 hp r1 =>
        obtain ⟨np, nd1⟩ := List.nodup_cons.mp nd
        obtain ⟨p1, p2, p3, p4⟩ := n1 p (List.mem_cons_self ..)
        have n2 : ∀ a ∈ o1, a ∉ C1 ∧ a ∉ O1 ∧ M1 a ∧ (a ∈ O ∨ H a = none) := fun a ha => n1 a (List.mem_cons_of_mem _ ha)
        have fl := fi1.less (os := o1) (fun a ha => (n2 a ha).1) fun a ha => (n2 a ha).2.1
        have mp : (fun a => M1 a ∧ a ∉ o1) p := ⟨p3, np⟩
        have rz : RVs K C1 (fun a => M1 a ∧ a ∉ o1) H1 xs (D.fzs ds) [] := r1.fz (fun a h z => h z.1) fun a ha z => z.2 ha
        have hcat : ∀ (c : Nat) (q : Addr), C1[c]? = some q → (C1 ++ [p])[c]? = some q := fun c q e => by
          rw [List.getElem?_append_left (List.getElem?_eq_some_iff.mp e).1]
          exact e
        have hlast : (C1 ++ [p])[st1.length]? = some p := by
          rw [fi1.ci.len, List.getElem?_append_right (Nat.le_refl _), Nat.sub_self]
          rfl
        have ci2 : CI K (C1 ++ [p]) (fun a => M1 a ∧ a ∉ o1) H1 (st1 ++ [D.fzs ds]) := by
          refine ⟨by rw [List.length_append, List.length_append, fi1.ci.len]; rfl, fun j es q e1 e2 => ?_, ?_, fun a ha => ?_, fl.ci.tr⟩
          · by_cases hj : j < st1.length
            · rw [List.getElem?_append_left hj] at e1
              rw [List.getElem?_append_left (by rw [← fi1.ci.len]; exact hj)] at e2
              exact fl.ci.at_ j es q e1 e2
            · rw [List.getElem?_append_right (Nat.le_of_not_lt hj)] at e1
              rw [List.getElem?_append_right (by rw [← fi1.ci.len]; exact Nat.le_of_not_lt hj)] at e2
              rw [← fi1.ci.len] at e2
              cases hz : j - st1.length with
              | zero =>
                rw [hz] at e1 e2
                cases e1
                cases e2
                exact ⟨xs, hp, rz.free hi.2⟩
              | succ m =>
                rw [hz] at e1
                simp at e1
          · rw [List.nodup_append]
            refine ⟨fi1.ci.nd, by simp, fun a ha b hb z => ?_⟩
            have : b = p := by simpa using hb
            subst this
            exact p1 (z ▸ ha)
          · rcases List.mem_append.mp ha with z | z
            · exact fl.ci.mC a z
            · have : a = p := by simpa using z
              subst this
              exact mp
        have f2 : FI K (C1 ++ [p]) O1 (fun a => M1 a ∧ a ∉ o1) H1 σ env1 (st1 ++ [D.fzs ds]) := ⟨ci2, fl.sl.mono hcat (fun _ _ _ e => e) (fun _ _ h _ => h) fun _ _ _ e => e, fl.od, fun a ha z => by
          rcases List.mem_append.mp z with z | z
          · exact fl.oc a ha z
          · have : a = p := by simpa using z
            subst this
            exact p2 ha, fl.mO⟩
        obtain ⟨O2, f3, m3⟩ := f2.set hi.1 (d := .cell st1.length) (.cell hlast) .nil fun a ha => nomatch ha
        refine q _ H1 (C1 ++ [p]) O2 _ ⟨fun a o h1 _ h3 => g1.keep a o h1 (fun z => z.elim) h3, ?_, fun a ha => ?_, fun a h => g1.fresh a h.1, fun a h1 h2 => ⟨g1.forn a h1 h2, fun z => ?_⟩, fun a ha => ?_, g1.back⟩ f3
        · obtain ⟨D1, e⟩ := g1.pre
          exact ⟨D1 ++ [p], by rw [e, List.append_assoc]⟩
        · rcases List.mem_append.mp ha with z | z
          · exact (g1.newc0 a z).imp id .inr
          · have ez : a = p := by simpa using z
            rw [ez]
            exact .inr (p4.imp (fun w => ⟨trivial, w⟩) id)
        · rcases m3 a ha with z | z
          · exact g1.ownd a z
          · exact nomatch z
        · rcases (n2 a z).2.2.2 with w | w
          · exact h2 w
          · obtain ⟨o, w2⟩ := fi.ci.tr a h1
            rw [w] at w2; cases w2
    · cases e
  · cases e
theorem s1_cell {i : Nat} {x : Str} {pos' : Pos} (hN : X.N.Nodup) (hi : X.N[i]? = some x) (hx : Loc X.env.scope x) (he : SE X e fe) (hs : swapsWith e (some (.Name x pos')) pos.line X.env = pure false := by rfl)
    (hf : X.fn x = true ∨ X.env.scope.names.lookup x = some .local := by first | exact .inl rfl | exact .inr rfl | assumption) : SS1 X (.Assign [.Name x pos'] e pos) (sCell i fe) := ps_weak (ps_set hN hi hx he hs hf) fun _ _ _ h => ts_cell h
end
end Pv

/-! # PvG -/
set_option Elab.async false
set_option linter.all false
set_option maxHeartbeats 1000000
/-! targets, walks, loops -/
namespace Pv
open PySem L2
abbrev GS := D → Env → Option Env
def tG (K : PySem.W.Frag) (js : List Nat) (gs : GS) : TG := fun x σ H Q => ∃ C O M env st d env', FI K C O M H σ env st ∧ RV K C M H x d [] ∧ gs d env = some env' ∧
  ∀ σ' O', FI K C O' M H σ' env' st → (∀ a ∈ O', a ∈ O) → (∀ vs : List Nat, (∀ j ∈ js, j ∈ vs) → wipe σ' vs = wipe σ vs) → Q σ' H
def SG (X : Cx) (tg : Expr) (js : List Nat) (gs : GS) : Prop := PG X tg (tG X.K js gs)
def tGs (K : PySem.W.Frag) (js : List Nat) (gs : List D → Env → Option Env) : TGs := fun xs σ H Q => ∃ C O M env st ds env', FI K C O M H σ env st ∧ RVs K C M H xs ds [] ∧ gs ds env = some env' ∧
  ∀ σ' O', FI K C O' M H σ' env' st → (∀ a ∈ O', a ∈ O) → (∀ vs : List Nat, (∀ j ∈ js, j ∈ vs) → wipe σ' vs = wipe σ vs) → Q σ' H
def SGs (X : Cx) (tg : List Expr) (js : List Nat) (gs : List D → Env → Option Env) : Prop := PGs X tg (tGs X.K js gs)
theorem pg_weak {X : Cx} {e : Expr} {t t' : TG} (h : PG X e t) (i : ∀ x σ H Q, t' x σ H Q → t x σ H Q) : PG X e t' := ⟨fun pins s σ H v u Q I r q => h.run pins s σ H v u Q I r (i v σ H Q q)⟩
theorem pgs_weak {X : Cx} {e : List Expr} {t t' : TGs} (h : PGs X e t) (i : ∀ x σ H Q, t' x σ H Q → t x σ H Q) : PGs X e t' := ⟨fun pins s σ H v u Q I r q => h.run pins s σ H v u Q I r (i v σ H Q q)⟩
theorem pi_weak {X : Cx} {tg e : Expr} {t t' : TI} (h : PI X tg e t) (i : ∀ σ H Q, t' σ H Q → t σ H Q) : PI X tg e t' := ⟨fun pins s σ H Q I q => h.run pins s σ H Q I (i σ H Q q)⟩
theorem wipe_at (σ : L2.St) (x : Option V) : ∀ (vs : List Nat) (j : Nat), j ∈ vs → wipe (σ.set j x) vs = wipe σ vs
  | [], j, h => nomatch h
  | v :: vs, j, h => by
    show (wipe (σ.set j x) vs).set v none = (wipe σ vs).set v none
    by_cases hv : v = j
    · subst hv
      by_cases hm : v ∈ vs
      · rw [wipe_at σ x vs v hm]
      · have e : wipe (σ.set v x) vs = (wipe σ vs).set v x := by
          clear h
          induction vs with
          | nil => rfl
          | cons u us ih =>
            have hu : u ≠ v := fun z => hm (z ▸ List.mem_cons_self ..)
            show (wipe (σ.set v x) us).set u none = ((wipe σ us).set u none).set v x
            rw [ih fun z => hm (List.mem_cons_of_mem _ z), List.set_comm _ _ (Ne.symm hu)]
        rw [e, List.set_set]
    · have hm : j ∈ vs := (List.mem_cons.mp h).resolve_left fun z => hv z.symm
      rw [wipe_at σ x vs j hm]
section
variable {X : Cx} {K : PySem.W.Frag} {C C' O O' : List Addr} {M M' : Addr → Prop} {H H' : Hp} {st st' : Ms} {σ σ' : L2.St} {env env' : Env} {N : Ends} {f g body : SS} {fe : ES} {e c : Expr} {es : List Expr} {pos : Pos} {js js' : List Nat} {gs : GS} {gss : List D → Env → Option Env}
def gN (i : Nat) : GS := fun d env => if i < env.length then some (env.set i (some d)) else none
theorem sg_name {i : Nat} {x : Str} (h : PG X (.Name x pos) (gName i)) : SG X (.Name x pos) [i] (gN i) := pg_weak h fun v σ H Q ⟨C, O, M, env, st, d, env', fi, r, e, q⟩ => by
  unfold gN at e
  split at e
  · rename_i hi
    cases e
    obtain ⟨O2, f2, m2⟩ := fi.set hi r .nil fun a ha => nomatch ha
    exact q _ O2 f2 (fun a ha => (m2 a ha).elim id fun z => nomatch z) fun vs h => wipe_at σ _ vs i (h i (List.mem_cons_self ..))
  · cases e
def gNilS : List D → Env → Option Env := fun ds env => match ds with
  | [] => some env
  | _ => none
def gConsS (g : GS) (gs : List D → Env → Option Env) : List D → Env → Option Env := fun ds env => match ds with
  | d :: ds => (g d env).bind fun e => gs ds e
  | [] => none
def gTupS (gs : List D → Env → Option Env) (n : Nat) : GS := fun d env => match d with
  | .tup ds => if ds.length = n then gs ds env else none
  | _ => none
theorem sgs_nil : SGs X [] [] gNilS := pgs_weak pgs_nil fun v σ H Q ⟨C, O, M, env, st, ds, env', fi, r, e, q⟩ => by
  unfold gNilS at e
  split at e
  · cases e
    cases r
    exact ⟨rfl, q σ O fi (fun _ h => h) fun _ _ => rfl⟩
  · cases e
theorem sgs_cons (h : SG X e js gs) (h2 : SGs X es js' gss) (hp : PGs X (e :: es) (gCons (tG X.K js gs) (tGs X.K js' gss))) : SGs X (e :: es) (js ++ js') (gConsS gs gss) :=
  pgs_weak hp fun v σ H Q ⟨C, O, M, env, st, ds, env', fi, r, e, q⟩ => by
  unfold gConsS at e
  split at e
  · rename_i d ds
    rw [Option.bind_eq_some_iff] at e
    obtain ⟨env1, e1, e2⟩ := e
    generalize hz : ([] : List Addr) = z at r
    cases r with
    | @cons v vs _ _ o1 o2 r1 r2 =>
      obtain ⟨rfl, rfl⟩ := List.append_eq_nil_iff.mp hz.symm
      refine ⟨v, vs, rfl, C, O, M, env, st, d, env1, fi, r1, e1, fun σ1 O1 f1 s1 w1 => ⟨C, O1, M, env1, st, ds, env', f1, r2, e2, fun σ2 O2 f2 s2 w2 => ?_⟩⟩
      exact q σ2 O2 f2 (fun a ha => s1 a (s2 a ha)) fun vs hv => (w2 vs fun j hj => hv j (List.mem_append_right _ hj)).trans (w1 vs fun j hj => hv j (List.mem_append_left _ hj))
  · cases e
theorem sg_tup {k n : Nat} (hp : PG X (.Tuple es k pos) (gTup X.K n (tGs X.K js gss))) : SG X (.Tuple es k pos) js (gTupS gss n) := pg_weak hp fun v σ H Q ⟨C, O, M, env, st, d, env', fi, r, e, q⟩ => by
  unfold gTupS at e
  split at e
  · rename_i ds
    split at e
    · rename_i hn
      cases r with
      | @tup p xs _ _ h r =>
        refine ⟨p, xs, rfl, ?_, r.len.trans hn, C, O, M, env, st, ds, env', fi, r, e, q⟩
        rcases h with h | h
        · exact SqT.of h.1
        · exact h H
    · cases e
  · cases e

/-! ### what is walked -/
/-- J walks over ds as long as what stands still stands -/
def ItOk (K : PySem.W.Frag) (J : It) (C O : List Addr) (M : Addr → Prop) (ds : List D) (H : Hp) : Prop :=
  ∀ C1 O1 M1 H1, Go True C O M H C1 O1 M1 H1 → (∀ a, M1 a → ∃ o, H1 a = some o) → ∀ i, (ds.length ≤ i → J.stop i H1) ∧ ∀ d, ds[i]? = some d → J.go i H1 ∧ ∀ x H2, J.yld i H1 x H2 → Gr M1 H1 M1 H2 ∧ RV K C1 M1 H2 x d []
abbrev WS := Env → Ms → Option (List D × Env × Ms)
def tI (K : PySem.W.Frag) (w : WS) : TI := fun σ H R => ∃ C O M env st ds env' st', FI K C O M H σ env st ∧ w env st = some (ds, env', st') ∧
  ∀ J H' C' O' M', Go False C O M H C' O' M' H' → FI K C' O' M' H' σ env' st' → ItOk K J C' O' M' ds H' → R J H'
def SI (X : Cx) (tg e : Expr) (w : WS) : Prop := PI X tg e (tI X.K w)
def wLst (f : ES) : WS := fun env st => (f env st).bind fun x => match x.1 with
  | .lst ds => some (ds, x.2)
  | .scr ns => some (ns.map D.int, x.2)
  | _ => none
def wTup (f : ES) : WS := fun env st => (f env st).bind fun x => match x.1 with
  | .tup ds => some (ds, x.2)
  | _ => none
theorem itl_ok {a : Addr} {xs : List V} {ds : List D} (hC : ∀ p ∈ C, M p) (hO : ∀ p ∈ O, M p) (h : ∀ C1 O1 M1 H1, Go True C O M H C1 O1 M1 H1 → SqL K H1 a xs) (r : RVs K C M H xs ds []) : ItOk K (Itl K a) C O M ds H := fun C1 O1 M1 H1 g t i => by
  have r1 : RVs K C1 M1 H1 xs ds [] := g.rvs0 hC hO r
  have s := h C1 O1 M1 H1 g
  refine ⟨fun hl => ⟨xs, s, by rw [r.len]; exact hl⟩, fun d e => ?_⟩
  obtain ⟨v, e1, rv⟩ := r1.get0 e
  refine ⟨⟨xs, v, s, e1⟩, fun x H2 hy => ?_⟩
  obtain ⟨rfl, hy⟩ := hy
  have e2 := (hy xs s).symm.trans e1
  cases e2
  exact ⟨.refl t, rv⟩
theorem itt_ok {a : Addr} {xs : List V} {ds : List D} (hC : ∀ p ∈ C, M p) (hO : ∀ p ∈ O, M p) (h : ∀ C1 O1 M1 H1, Go True C O M H C1 O1 M1 H1 → SqT K H1 a xs) (r : RVs K C M H xs ds []) : ItOk K (Itt K a) C O M ds H := fun C1 O1 M1 H1 g t i => by
  have r1 : RVs K C1 M1 H1 xs ds [] := g.rvs0 hC hO r
  have s := h C1 O1 M1 H1 g
  refine ⟨fun hl => ⟨xs, s, by rw [r.len]; exact hl⟩, fun d e => ?_⟩
  obtain ⟨v, e1, rv⟩ := r1.get0 e
  refine ⟨⟨xs, v, s, e1⟩, fun x H2 hy => ?_⟩
  obtain ⟨rfl, hy⟩ := hy
  have e2 := (hy xs s).symm.trans e1
  cases e2
  exact ⟨.refl t, rv⟩
theorem go_lr {C1 O1 : List Addr} {M1 : Addr → Prop} {H1 : Hp} {a : Addr} {u : HO} (g : Go True C O M H C1 O1 M1 H1) (hC : ∀ p ∈ C, M p) (hO : ∀ p ∈ O, M p) (h : H a = some u) (n : ¬ M a) : H1 a = some u := g.keep a u (fun z => n (hC a z)) (fun _ z => n (hO a z)) h
theorem si_lst {tg : Expr} (h : SZ X e fe) : SI X tg e (wLst fe) := pi_weak (pi_list h) fun σ H R ⟨C, O, M, env, st, ds, env', st', fi, e, q⟩ => by
  unfold wLst at e
  rw [Option.bind_eq_some_iff] at e
  obtain ⟨⟨a, env1, st1⟩, e1, e⟩ := e
  dsimp only at e
  split at e
  · cases e
    refine ⟨C, O, M, env, st, .lst ds, env', st', fi, e1, fun v H1 C1 O1 M1 g1 fi1 r1 => ?_⟩
    cases r1 with
    | @lst p xs _ h r =>
      exact ⟨p, rfl, ⟨xs, SqL.of h.1⟩, q _ H1 C1 O1 M1 g1 fi1 (itl_ok fi1.ci.mC fi1.mO (fun C2 O2 M2 H2 g2 => SqL.of (go_lr g2 fi1.ci.mC fi1.mO h.1 h.2)) r)⟩
  · rename_i ns
    cases e
    refine ⟨C, O, M, env, st, .scr ns, env', st', fi, e1, fun v H1 C1 O1 M1 g1 fi1 r1 => ?_⟩
    cases r1 with
    | @scr p _ h =>
      have hz : ∀ C2 O2 M2 H2, Go True C1 O1 M1 H1 C2 O2 M2 H2 → SqL X.K H2 p (ns.map V.int) := fun C2 O2 M2 H2 g2 => by
        rcases h with ⟨h | ⟨o, h⟩, n⟩ | h
        · exact SqL.of (go_lr g2 fi1.ci.mC fi1.mO h n)
        · exact .inl (.inr ⟨o, go_lr g2 fi1.ci.mC fi1.mO h n⟩)
        · exact h H2
      exact ⟨p, rfl, ⟨_, hz _ _ _ _ .refl⟩, q _ H1 C1 O1 M1 g1 fi1 (itl_ok fi1.ci.mC fi1.mO hz (RVs.ints ns))⟩
  · cases e
theorem si_tup {tg : Expr} (h : SZ X e fe) : SI X tg e (wTup fe) := pi_weak (pi_tup h) fun σ H R ⟨C, O, M, env, st, ds, env', st', fi, e, q⟩ => by
  unfold wTup at e
  rw [Option.bind_eq_some_iff] at e
  obtain ⟨⟨a, env1, st1⟩, e1, e⟩ := e
  dsimp only at e
  split at e
  · cases e
    refine ⟨C, O, M, env, st, .tup ds, env', st', fi, e1, fun v H1 C1 O1 M1 g1 fi1 r1 => ?_⟩
    cases r1 with
    | @tup p xs _ _ h r =>
      have hz : ∀ C2 O2 M2 H2, Go True C1 O1 M1 H1 C2 O2 M2 H2 → SqT X.K H2 p xs := fun C2 O2 M2 H2 g2 => by
        rcases h with ⟨h, n⟩ | h
        · exact SqT.of (go_lr g2 fi1.ci.mC fi1.mO h n)
        · exact h H2
      exact ⟨p, rfl, ⟨xs, hz _ _ _ _ .refl⟩, q _ H1 C1 O1 M1 g1 fi1 (itt_ok fi1.ci.mC fi1.mO hz r)⟩
  · cases e
/-- lo, lo + c, .. -/
def steps (lo c : Int) (n : Nat) : List D := (List.range n).map fun (i : Nat) => D.int (lo + (i : Int) * c)
theorem itr_ok {lo : Int} {n : Nat} : ItOk K (Itr lo n) C O M (steps lo 1 n) H := fun C1 O1 M1 H1 g t i => by
  refine ⟨fun hl => (show n ≤ i by simpa [steps] using hl), fun d e => ?_⟩
  simp only [steps, List.getElem?_map, Option.map_eq_some_iff] at e
  obtain ⟨k, e, rfl⟩ := e
  obtain ⟨e5, rfl⟩ : i < n ∧ i = k := by
    obtain ⟨w, z⟩ := List.getElem?_eq_some_iff.mp e
    rw [List.getElem_range] at z
    exact ⟨by simpa using w, z⟩
  refine ⟨e5, fun x H2 hy => ?_⟩
  obtain ⟨rfl, rfl⟩ := hy
  rw [Int.mul_one]
  exact ⟨.refl t, .int _⟩
theorem itc_ok {lo c : Int} {n : Nat} : ItOk K (Itc lo c n) C O M (steps lo c n) H := fun C1 O1 M1 H1 g t i => by
  refine ⟨fun hl => (show n ≤ i by simpa [steps] using hl), fun d e => ?_⟩
  simp only [steps, List.getElem?_map, Option.map_eq_some_iff] at e
  obtain ⟨k, e, rfl⟩ := e
  obtain ⟨e5, rfl⟩ : i < n ∧ i = k := by
    obtain ⟨w, z⟩ := List.getElem?_eq_some_iff.mp e
    rw [List.getElem_range] at z
    exact ⟨by simpa using w, z⟩
  refine ⟨e5, fun x H2 hy => ?_⟩
  obtain ⟨rfl, rfl⟩ := hy
  exact ⟨.refl t, .int _⟩
/-! ### for -/
def forF (gs : GS) (body : SS) : List D → SS
  | [], env, st => some (.nx env st)
  | d :: ds, env, st => (gs d env).bind fun env1 => (body env1 st).bind fun r => match r with
    | .nx env2 st2 => forF gs body ds env2 st2
    | .ct env2 st2 => forF gs body ds env2 st2
    | .bk env2 st2 => some (.nx env2 st2)
    | .rt d st2 => some (.rt d st2)
def sFor (w : WS) (gs : GS) (body : SS) : SS := fun env st => (w env st).bind fun x => forF gs body x.1 x.2.1 x.2.2
theorem s1_for {tg iter : Expr} {bs : List Stmt} {w : WS} (hp : PassesOwn (model X.prog X.w) X.A X.env X.xe) (hc : X.calm = true) (hi : SI X tg iter w) (hg : SG X tg js gs) (hb : SSs X bs body) (hs : ∀ x, foldedSetIterable iter X.env x = pure x := by intro _; rfl) : SS1 X (.For tg iter bs [] pos) (sFor w gs body) := ps_weak (ps_for hp hc hi hg hb hs) fun N σ H ⟨C, O, M, env, st, r, fi, e, q⟩ => by
  unfold sFor at e
  rw [Option.bind_eq_some_iff] at e
  obtain ⟨⟨ds, env1, st1⟩, e1, e⟩ := e
  dsimp only at e
  refine ⟨C, O, M, env, st, ds, env1, st1, fi, e1, fun J H1 C1 O1 M1 g1 fi1 it => ?_⟩
  have q1 : FlOk X.K C1 O1 M1 H1 N r := q.from fi g1.weak
  clear q e1
  refine ⟨fun i m σ2 H2 => m + i = ds.length ∧ ∃ C2 O2 M2 env2 st2, Go True C1 O1 M1 H1 C2 O2 M2 H2 ∧ FI X.K C2 O2 M2 H2 σ2 env2 st2 ∧ forF gs body (ds.drop i) env2 st2 = some r, ⟨ds.length, rfl, C1, O1, M1, env1, st1, .refl, fi1, by simpa using e⟩, fun i m σ2 H2 hW => ?_⟩
  obtain ⟨hm, C2, O2, M2, env2, st2, g2, fi2, e2⟩ := hW
  obtain ⟨hstop, hgo⟩ := it C2 O2 M2 H2 g2 fi2.ci.tr i
  cases hd : ds[i]? with
  | none =>
    have hl : ds.length ≤ i := List.getElem?_eq_none_iff.mp hd
    rw [List.drop_eq_nil_of_le hl] at e2
    cases e2
    exact .inl ⟨hstop hl, q1 σ2 H2 C2 O2 M2 g2 fi2⟩
  | some d =>
    obtain ⟨hgo1, hy⟩ := hgo d hd
    have hlt : i < ds.length := (List.getElem?_eq_some_iff.mp hd).1
    have hdr : ds.drop i = d :: ds.drop (i + 1) := by
      rw [List.drop_eq_getElem_cons hlt, (List.getElem?_eq_some_iff.mp hd).2]
    rw [hdr] at e2
    unfold forF at e2
    rw [Option.bind_eq_some_iff] at e2
    obtain ⟨env3, e3, e2⟩ := e2
    rw [Option.bind_eq_some_iff] at e2
    obtain ⟨r1, e4, e2⟩ := e2
    refine .inr ⟨hgo1, fun σ4 H4 => m - 1 + (i + 1) = ds.length ∧ ∃ C4 O4 M4 env4 st4, Go True C1 O1 M1 H1 C4 O4 M4 H4 ∧ FI X.K C4 O4 M4 H4 σ4 env4 st4 ∧ forF gs body (ds.drop (i + 1)) env4 st4 = some r, fun σ4 H4 h => ⟨m - 1, by omega, h⟩, fun x H3 hx => ?_⟩
    obtain ⟨gr, rx⟩ := hy x H3 hx
    refine ⟨C2, O2, M2, env2, st2, d, env3, gr.fi fi2, rx, e3, fun σ3 O3 fi3 s3 _ => ?_⟩
    have g3 : Go True C1 O1 M1 H1 C2 O3 M2 H3 := g2.trans fi1.ci.tr ⟨fun a o _ _ e => gr.keep a o e, ⟨[], (List.append_nil _).symm⟩, fun _ h => .inl h, gr.fresh, fun a h _ => h, fun a h => .inl (s3 a h), (gr.go (w := True) (C := C2) (O := O2)).back⟩
    refine ⟨C2, O3, M2, env3, st2, r1, fi3, e4, ?_⟩
    cases r1 with
    | nx env4 st4 => exact fun σ5 H5 C5 O5 M5 g5 fi5 => ⟨by omega, C5, O5, M5, env4, st4, g3.trans fi1.ci.tr g5, fi5, e2⟩
    | ct env4 st4 => exact fun σ5 H5 C5 O5 M5 g5 fi5 => ⟨by omega, C5, O5, M5, env4, st4, g3.trans fi1.ci.tr g5, fi5, e2⟩
    | bk env4 st4 =>
      cases e2
      exact fun σ5 H5 C5 O5 M5 g5 fi5 => q1 σ5 H5 C5 O5 M5 (g3.trans fi1.ci.tr g5) fi5
    | rt d4 st4 =>
      cases e2
      exact q1.from fi1 g3
/-! ### while -/
def whF (t : BS) (body : SS) : Nat → SS
  | 0, _, _ => none
  | n + 1, env, st => (t env st).bind fun x => if x.1 = true then (body x.2.1 x.2.2).bind fun r => match r with
      | .nx env2 st2 => whF t body n env2 st2
      | .ct env2 st2 => whF t body n env2 st2
      | .bk env2 st2 => some (.nx env2 st2)
      | .rt d st2 => some (.rt d st2)
    else some (.nx x.2.1 x.2.2)
theorem s1_while {c : Expr} {bs : List Stmt} {t : BS} (n : Nat) (hp : PassesOwn (model X.prog X.w) X.A X.env X.xe) (hc : ST X c t) (hb : SSs X bs body) : SS1 X (.While c bs [] pos) (whF t body n) := ps_weak (ps_while hp hc hb) fun N σ H ⟨C, O, M, env, st, r, fi, e, q⟩ => by
  refine ⟨fun m σ2 H2 => ∃ C2 O2 M2 env2 st2, Go True C O M H C2 O2 M2 H2 ∧ FI X.K C2 O2 M2 H2 σ2 env2 st2 ∧ whF t body m env2 st2 = some r, ⟨n, C, O, M, env, st, .refl, fi, e⟩, fun m σ2 H2 hW => ?_⟩
  obtain ⟨C2, O2, M2, env2, st2, g2, fi2, e2⟩ := hW
  cases m with
  | zero => cases e2
  | succ m =>
    unfold whF at e2
    rw [Option.bind_eq_some_iff] at e2
    obtain ⟨⟨b, env3, st3⟩, e3, e2⟩ := e2
    dsimp only at e2
    refine ⟨C2, O2, M2, env2, st2, b, env3, st3, fi2, e3, fun H3 C3 O3 M3 g3 fi3 => ?_⟩
    have g23 := g2.trans fi.ci.tr g3.weak
    cases b with
    | false =>
      rw [if_neg (by decide)] at e2
      cases e2
      exact iteF (q σ2 H3 C3 O3 M3 g23 fi3)
    | true =>
      rw [if_pos rfl] at e2
      rw [Option.bind_eq_some_iff] at e2
      obtain ⟨r1, e4, e2⟩ := e2
      refine iteT ⟨fun σ4 H4 => ∃ C4 O4 M4 env4 st4, Go True C O M H C4 O4 M4 H4 ∧ FI X.K C4 O4 M4 H4 σ4 env4 st4 ∧ whF t body m env4 st4 = some r, fun σ4 H4 h => ⟨m, Nat.lt_succ_self m, h⟩, C3, O3, M3, env3, st3, r1, fi3, e4, ?_⟩
      cases r1 with
      | nx env4 st4 => exact fun σ5 H5 C5 O5 M5 g5 fi5 => ⟨C5, O5, M5, env4, st4, g23.trans fi.ci.tr g5, fi5, e2⟩
      | ct env4 st4 => exact fun σ5 H5 C5 O5 M5 g5 fi5 => ⟨C5, O5, M5, env4, st4, g23.trans fi.ci.tr g5, fi5, e2⟩
      | bk env4 st4 =>
        cases e2
        exact fun σ5 H5 C5 O5 M5 g5 fi5 => q σ5 H5 C5 O5 M5 (g23.trans fi.ci.tr g5) fi5
      | rt d4 st4 =>
        cases e2
        exact FlOk.from (N := N) (r := .rt d4 st4) fi g23 q
end
end Pv

/-! # PvH -/
set_option Elab.async false
set_option linter.all false
set_option maxHeartbeats 1000000
/-! comprehensions -/
namespace Pv
open PySem L2
mutual
def D.of : D → Bool
  | .own _ => false
  | .tup l => D.ofs l
  | .lst _ => true | .non => true | .bl _ => true | .int _ => true | .str _ => true | .scr _ => true | .cell _ => true
def D.ofs : List D → Bool
  | [] => true
  | d :: l => d.of && D.ofs l
end
def wipeE (env : Env) : List Nat → Env
  | [] => env
  | v :: vs => (wipeE env vs).set v none
def restE (env1 env : Env) : List Nat → Env
  | [] => env
  | v :: vs => restE env1 (env.set v (env1.getD v none)) vs
def okAt (env : Env) : List Nat → Bool
  | [] => true
  | v :: vs => (match env[v]? with
    | some (some d) => d.of
    | some none => true
    | none => false) && okAt env vs
def compF (gs : GS) (t : BS) (fe : ES) (vs : List Nat) : List D → Env → Ms → Option (List D × Env × Ms)
  | [], env, st => some ([], env, st)
  | d :: ds, env, st => (gs d env).bind fun env1 => (t env1 st).bind fun x =>
    if x.1 = true then (fe x.2.1 x.2.2).bind fun y => (compF gs t fe vs ds (wipeE y.2.1 vs) y.2.2).map fun z => (y.1 :: z.1, z.2)
    else compF gs t fe vs ds (wipeE x.2.1 vs) x.2.2
def fComp (w : WS) (gs : GS) (t : BS) (fe : ES) (vs : List Nat) : ES := fun env st => (w env st).bind fun x => if okAt x.2.1 vs = true then
    (compF gs t fe vs x.1 (wipeE x.2.1 vs) x.2.2).bind fun z => if z.1.length ≤ BIG then some (.own z.1, restE x.2.1 z.2.1 vs, z.2.2) else none
  else none
section
variable {X : Cx} {K : PySem.W.Frag} {C C' O O' : List Addr} {M M' : Addr → Prop} {H H' : Hp} {st st' : Ms} {σ σ' : L2.St} {env env' : Env}
mutual
theorem RV.of : ∀ {v : V} {d : D} {os : List Addr}, RV K C M H v d os → d.of = true → os = []
  | _, _, _, .non, _ => rfl
  | _, _, _, .bl b, _ => rfl
  | _, _, _, .int i, _ => rfl
  | _, _, _, .str s, _ => rfl
  | _, _, _, .tup h r, q => r.of (by simpa only [D.of] using q)
  | _, _, _, .lst h r, q => rfl
  | _, _, _, .own h r, q => by simp only [D.of] at q; cases q
  | _, _, _, .cell h, q => rfl
  | _, _, _, .scr h, _ => rfl
theorem RVs.of : ∀ {vs : List V} {ds : List D} {os : List Addr}, RVs K C M H vs ds os → D.ofs ds = true → os = []
  | _, _, _, .nil, _ => rfl
  | _, _, _, .cons h r, q => by
    simp only [D.ofs, Bool.and_eq_true] at q
    rw [h.of q.1, r.of q.2]
    rfl
end
theorem wipe_wipe (σ : L2.St) (vs : List Nat) : ∀ us : List Nat, (∀ u ∈ us, u ∈ vs) → wipe (wipe σ us) vs = wipe σ vs
  | [], _ => rfl
  | u :: us, h => by
    show wipe ((wipe σ us).set u none) vs = wipe σ vs
    rw [wipe_at _ _ vs u (h u (List.mem_cons_self ..)), wipe_wipe σ vs us fun x hx => h x (List.mem_cons_of_mem _ hx)]
theorem wipe_get (σ : L2.St) {v : Nat} : ∀ {vs : List Nat}, v ∉ vs → (wipe σ vs)[v]? = σ[v]?
  | [], _ => rfl
  | u :: us, h => by
    show ((wipe σ us).set u none)[v]? = σ[v]?
    rw [List.getElem?_set_ne (fun z => h (by rw [z]; exact List.mem_cons_self ..)), wipe_get σ fun z => h (List.mem_cons_of_mem _ z)]
theorem FI.drop (fi : FI K C O M H σ env st) (i : Nat) (x : Option V) : ∃ O', FI K C O' M H (σ.set i x) (env.set i none) st ∧ ∀ a ∈ O', a ∈ O := by
  obtain ⟨O1, o0, O2, eo, z⟩ := fi.sl.drop i x
  have od := fi.od
  rw [eo] at od
  have sub : ∀ a ∈ O1 ++ O2, a ∈ O := fun a ha => by
    rw [eo]
    exact sub3 ha
  exact ⟨O1 ++ O2, ⟨fi.ci, z, (nd3 od).1, fun a ha => fi.oc a (sub a ha), fun a ha => fi.mO a (sub a ha)⟩, sub⟩
theorem FI.wiped (fi : FI K C O M H σ env st) : ∀ vs : List Nat, ∃ O', FI K C O' M H (wipe σ vs) (wipeE env vs) st ∧ ∀ a ∈ O', a ∈ O
  | [] => ⟨O, fi, fun _ h => h⟩
  | v :: vs => by
    obtain ⟨O1, f1, s1⟩ := FI.wiped fi vs
    obtain ⟨O2, f2, s2⟩ := f1.drop v none
    exact ⟨O2, f2, fun a h => s1 a (s2 a h)⟩
theorem set_self {α : Type} : ∀ (l : List α) (i : Nat) (x : α), l[i]? = some x → l.set i x = l
  | [], i, x, h => by simp at h
  | a :: l, 0, x, h => by
    simp only [List.getElem?_cons_zero, Option.some.injEq] at h
    subst h
    rfl
  | a :: l, i + 1, x, h => by
    simp only [List.getElem?_cons_succ] at h
    show a :: l.set i x = a :: l
    rw [set_self l i x h]
theorem FI.rest (env1 : Env) : ∀ (vs : List Nat) {O : List Addr} {env : Env}, vs.Nodup → FI K C O M H (wipe σ vs) env st → (∀ v ∈ vs, v < σ.length ∧ (env1[v]? = some none ∨ ∃ d x, env1[v]? = some (some d) ∧ σ[v]? = some (some x) ∧ RV K C M H x d [])) →
    ∃ O', FI K C O' M H σ (restE env1 env vs) st ∧ ∀ a ∈ O', a ∈ O
  | [], O, env, _, fi, _ => ⟨O, fi, fun _ h => h⟩
  | v :: vs, O, env, nd, fi, h => by
    obtain ⟨nv, nd⟩ := List.nodup_cons.mp nd
    obtain ⟨hl, hv⟩ := h v (List.mem_cons_self ..)
    have hlen : env.length = σ.length := by
      rw [← fi.sl.len, wipe_length]
    rcases hv with hv | ⟨d, x, hv, hx, rv⟩
    · obtain ⟨y, hy⟩ : ∃ y, σ[v]? = some y := ⟨σ[v], List.getElem?_eq_getElem hl⟩
      obtain ⟨O1, f1, s1⟩ := fi.drop v y
      have e1 : (wipe σ (v :: vs)).set v y = wipe σ vs := by
        show ((wipe σ vs).set v none).set v y = _
        rw [List.set_set, set_self _ _ _ ((wipe_get σ nv).trans hy)]
      rw [e1] at f1
      have e2 : env1.getD v none = none := by
        rw [List.getD_eq_getElem?_getD, hv]
        rfl
      obtain ⟨O2, f2, s2⟩ := FI.rest env1 vs nd f1 fun u hu => h u (List.mem_cons_of_mem _ hu)
      refine ⟨O2, ?_, fun a ha => s1 a (s2 a ha)⟩
      show FI K C O2 M H σ (restE env1 (env.set v (env1.getD v none)) vs) st
      rw [e2]
      exact f2
    · obtain ⟨O1, f1, s1⟩ := fi.set (i := v) (by rw [hlen]; exact hl) rv .nil fun a ha => nomatch ha
      have e1 : (wipe σ (v :: vs)).set v (some x) = wipe σ vs := by
        show ((wipe σ vs).set v none).set v (some x) = _
        rw [List.set_set, set_self _ _ _ ((wipe_get σ nv).trans hx)]
      rw [e1] at f1
      have e2 : env1.getD v none = some d := by
        rw [List.getD_eq_getElem?_getD, hv]
        rfl
      obtain ⟨O2, f2, s2⟩ := FI.rest env1 vs nd f1 fun u hu => h u (List.mem_cons_of_mem _ hu)
      refine ⟨O2, ?_, fun a ha => (s1 a (s2 a ha)).elim id fun z => nomatch z⟩
      show FI K C O2 M H σ (restE env1 (env.set v (env1.getD v none)) vs) st
      rw [e2]
      exact f2
theorem okAt_at : ∀ {vs : List Nat} {env : Env}, okAt env vs = true → ∀ v ∈ vs, env[v]? = some none ∨ ∃ d, env[v]? = some (some d) ∧ d.of = true
  | [], _, _, v, h => nomatch h
  | u :: us, env, h, v, hv => by
    simp only [okAt, Bool.and_eq_true] at h
    rcases List.mem_cons.mp hv with z | z
    · subst z
      have h1 := h.1
      split at h1
      · rename_i d e
        exact .inr ⟨d, e, h1⟩
      · rename_i e
        exact .inl e
      · cases h1
    · exact okAt_at h.2 v z
/-- a foreign list is written -/
theorem FI.fw (fi : FI K C O M H σ env st) {p : Addr} {xs : List V} (hm : M p) (hc : p ∉ C) (ho : p ∉ O) : FI K C O M (upd H p (.lst xs)) σ env st :=
  ⟨fi.ci.wr hc hm, fi.sl.mono (fun _ _ e => e) (fun a o h e => by rw [upd_ne (fun z => h (by rw [z]; exact hm))]; exact e) (fun _ _ h _ => h) fun a ha o e => by rw [upd_ne (fun z => ho (by rw [← z]; exact ha))]; exact e, fi.od, fi.oc, fi.mO⟩
variable {w : WS} {js vs : List Nat} {gs : GS} {t : BS} {fe : ES} {Q : VK}
theorem te_comp (hj : ∀ j ∈ js, j ∈ vs) (ndv : vs.Nodup) (h : tE K (fComp w gs t fe vs) σ H Q) : tLc (tI K w) (tG K js gs) (tT K t) (tE K fe) vs σ H Q := by
  obtain ⟨C, O, M, env, st, d, env', st', fi, e, q⟩ := h
  unfold fComp at e
  rw [Option.bind_eq_some_iff] at e
  obtain ⟨⟨ds, env1, st1⟩, e1, e⟩ := e
  dsimp only at e
  split at e
  · rename_i hok
    rw [Option.bind_eq_some_iff] at e
    obtain ⟨⟨ys, env3, st3⟩, ec, e⟩ := e
    dsimp only at e
    split at e
    · rename_i hbig
      cases e
      refine ⟨C, O, M, env, st, ds, env1, st1, fi, e1, fun J H1 C1 O1 M1 g1 fi1 it Dl hD => ?_⟩
      obtain ⟨Ob, fb, sb⟩ := fi1.wiped vs
      have nDC : Dl ∉ C1 := fi1.noC hD
      refine ⟨fun i m H2 => m + i = ds.length ∧ ∃ C2 O2 M2 env2 st2 acc accD os ysr, Go False C1 O1 M1 H1 C2 O2 M2 H2 ∧ FI K C2 O2 M2 H2 (wipe σ vs) env2 st2 ∧ H2 Dl = some (.lst acc) ∧ M2 Dl ∧ Dl ∉ C2 ∧ Dl ∉ O2 ∧
        RVs K C2 M2 H2 acc accD os ∧ os.Nodup ∧ (∀ a ∈ os, a ∉ C2 ∧ a ∉ O2 ∧ M2 a ∧ a ≠ Dl ∧ (a ∈ O1 ∨ H1 a = none)) ∧ compF gs t fe vs (ds.drop i) env2 st2 = some (ysr, env3, st') ∧ accD ++ ysr = ys, ⟨ds.length, rfl, ?_⟩, fun i m H2 hW => ?_⟩
      · have gr : Gr M1 H1 (fun a => M1 a ∨ a = Dl) (upd H1 Dl (.lst [])) := .own fi1.ci.tr hD
        exact ⟨C1, Ob, _, wipeE env1 vs, st1, [], [], [], ys, ⟨fun a o _ _ e => gr.keep a o e, ⟨[], (List.append_nil _).symm⟩, fun _ h => .inl h, gr.fresh, fun a h _ => gr.up a h, fun a h => .inl (sb a h), (gr.go (w := True) (C := C1) (O := O1)).back⟩, gr.fi fb, upd_same, .inr rfl, nDC, fun z => fi1.noO hD (sb _ z), .nil, .nil, (fun a ha => nomatch ha), ec, rfl⟩
      · obtain ⟨hm, C2, O2, M2, env2, st2, acc, accD, os, ysr, g2, fi2, hacc, mD, dC, dO, racc, ndo, no, e2, ey⟩ := hW
        obtain ⟨hstop, hgo⟩ := it C2 O2 M2 H2 g2.weak fi2.ci.tr i
        cases hd : ds[i]? with
        | none =>
          have hl : ds.length ≤ i := List.getElem?_eq_none_iff.mp hd
          rw [List.drop_eq_nil_of_le hl] at e2
          cases e2
          rw [List.append_nil] at ey
          subst ey
          refine .inl ⟨hstop hl, ?_⟩
          obtain ⟨O4, f4, s4⟩ := fi2.rest (σ := σ) env1 vs ndv fun v hv => by
            have hlt : v < σ.length := by
              rcases okAt_at hok v hv with z | ⟨d, z, _⟩
              · rw [fi1.sl.len]
                exact (List.getElem?_eq_some_iff.mp z).1
              · rw [fi1.sl.len]
                exact (List.getElem?_eq_some_iff.mp z).1
            refine ⟨hlt, ?_⟩
            rcases okAt_at hok v hv with z | ⟨d, z, hof⟩
            · exact .inl z
            · obtain ⟨x, o, s1, r, _⟩ := fi1.sl.get z
              obtain rfl := r.of hof
              exact .inr ⟨d, x, z, s1, g2.rv fi1.ci.mC r fun a ha => nomatch ha⟩
          have g4 : Go False C1 O1 M1 H1 C2 O4 M2 H2 := ⟨g2.keep, g2.pre, g2.newc, g2.fresh, g2.forn, fun a ha => g2.ownd a (s4 a ha), g2.back⟩
          refine q (.ref Dl) H2 C2 O4 M2 (Dl :: os) (g1.trans fi.ci.tr g4) f4 (.own hacc racc) (List.nodup_cons.mpr ⟨fun z => (no Dl z).2.2.2.1 rfl, ndo⟩) fun a ha => ?_
          rcases List.mem_cons.mp ha with z | z
          · subst z
            exact ⟨dC, fun z => dO (s4 _ z), mD, .inr (g1.back _ hD)⟩
          · obtain ⟨m1, m2, m3, _, m4⟩ := no a z
            refine ⟨m1, fun z => m2 (s4 _ z), m3, ?_⟩
            rcases m4 with w | w
            · exact g1.ownd a w
            · exact .inr (g1.back a w)
        | some d =>
          obtain ⟨hgo1, hy⟩ := hgo d hd
          have hlt : i < ds.length := (List.getElem?_eq_some_iff.mp hd).1
          have hdr : ds.drop i = d :: ds.drop (i + 1) := by
            rw [List.drop_eq_getElem_cons hlt, (List.getElem?_eq_some_iff.mp hd).2]
          rw [hdr] at e2
          unfold compF at e2
          rw [Option.bind_eq_some_iff] at e2
          obtain ⟨envA, e3, e2⟩ := e2
          rw [Option.bind_eq_some_iff] at e2
          obtain ⟨⟨b, envB, stB⟩, e4, e2⟩ := e2
          dsimp only at e2
          refine .inr ⟨hgo1, _, fun H' h => ⟨m - 1, Nat.sub_lt (by omega) Nat.zero_lt_one, h⟩, fun x H3 hx => ?_⟩
          obtain ⟨gr, rx⟩ := hy x H3 hx
          refine ⟨C2, O2, M2, env2, st2, d, envA, gr.fi fi2, rx, e3, fun σ3 O3 fi3 s3 w3 => ⟨(w3 vs hj).trans (wipe_wipe σ vs vs fun _ h => h), ?_⟩⟩
          have w3' : wipe σ3 vs = wipe σ vs := (w3 vs hj).trans (wipe_wipe σ vs vs fun _ h => h)
          have g3 : Go False C1 O1 M1 H1 C2 O3 M2 H3 := g2.trans fi1.ci.tr ⟨fun a o _ _ e => gr.keep a o e, ⟨[], (List.append_nil _).symm⟩, fun _ h => .inl h, gr.fresh, fun a h _ => h, fun a h => .inl (s3 a h), (gr.go (w := True) (C := C2) (O := O2)).back⟩
          refine ⟨C2, O3, M2, envA, st2, b, envB, stB, fi3, e4, fun H4 C4 O4 M4 g4 fi4 => ?_⟩
          have tD3 : H3 Dl = some (.lst acc) := gr.keep _ _ hacc
          have dO3 : Dl ∉ O3 := fun z => dO (s3 _ z)
          have tD4 : H4 Dl = some (.lst acc) := g4.keep _ _ dC (fun z => z.elim) tD3
          have mD4 : M4 Dl := g4.forn _ mD dO3
          have dC4 : Dl ∉ C4 := fun z => by
            rcases g4.newc0 _ z with w | w
            · exact dC w
            · rw [tD3] at w; cases w
          have dO4 : Dl ∉ O4 := fun z => by
            rcases g4.ownd _ z with w | w
            · exact dO3 w
            · rw [tD3] at w; cases w
          have t3 : ∀ a ∈ os, ∃ o, H3 a = some o := fun a ha => by
            obtain ⟨o, w⟩ := racc.otr a ha
            exact ⟨o, gr.keep _ _ w⟩
          have racc4 : RVs K C4 M4 H4 acc accD os := g4.rvs fi3.ci.mC (gr.rvs racc) fun a ha => (no a ha).1
          have no4 : ∀ a ∈ os, a ∉ C4 ∧ a ∉ O4 ∧ M4 a ∧ a ≠ Dl ∧ (a ∈ O1 ∨ H1 a = none) := fun a ha => by
            obtain ⟨m1, m2, m3, m4, m5⟩ := no a ha
            obtain ⟨o, w⟩ := t3 a ha
            refine ⟨fun z => ?_, fun z => ?_, g4.forn a m3 fun z => m2 (s3 a z), m4, m5⟩
            · rcases g4.newc0 a z with y | y
              · exact m1 y
              · rw [w] at y; cases y
            · rcases g4.ownd a z with y | y
              · exact m2 (s3 a y)
              · rw [w] at y; cases y
          have g34 := g3.trans fi1.ci.tr g4
          cases b with
          | false =>
            rw [if_neg (by decide)] at e2
            obtain ⟨O5, f5, s5⟩ := fi4.wiped vs
            rw [w3'] at f5
            refine iteF ⟨by omega, C4, O5, M4, wipeE envB vs, stB, acc, accD, os, ysr, ⟨g34.keep, g34.pre, g34.newc, g34.fresh, g34.forn, fun a ha => g34.ownd a (s5 a ha), g34.back⟩, f5, tD4, mD4, dC4, fun z => dO4 (s5 _ z), racc4, ndo, fun a ha => ?_, e2, ey⟩
            obtain ⟨m1, m2, m3, m4, m5⟩ := no4 a ha
            exact ⟨m1, fun z => m2 (s5 a z), m3, m4, m5⟩
          | true =>
            rw [if_pos rfl] at e2
            rw [Option.bind_eq_some_iff] at e2
            obtain ⟨⟨y, envC, stC⟩, e5, e2⟩ := e2
            rw [Option.map_eq_some_iff] at e2
            obtain ⟨⟨zs, env6, st6⟩, e6, e7⟩ := e2
            simp only [Prod.mk.injEq] at e7
            obtain ⟨e7, e8, e9⟩ := e7
            subst e7 e8 e9
            refine iteT ⟨C4, O4, M4, envB, stB, y, envC, stC, fi4, e5, fun v H5 C5 O5 M5 os5 g5 fi5 r5 nd5 n5 => ?_⟩
            have tD5 : H5 Dl = some (.lst acc) := g5.keep _ _ dC4 (fun z => z.elim) tD4
            have mD5 : M5 Dl := g5.forn _ mD4 dO4
            have dC5 : Dl ∉ C5 := fun z => by
              rcases g5.newc0 _ z with w | w
              · exact dC4 w
              · rw [tD4] at w; cases w
            have dO5 : Dl ∉ O5 := fun z => by
              rcases g5.ownd _ z with w | w
              · exact dO4 w
              · rw [tD4] at w; cases w
            have t4 : ∀ a ∈ os, ∃ o, H4 a = some o := fun a ha => racc4.otr a ha
            have racc5 : RVs K C5 M5 H5 acc accD os := g5.rvs fi4.ci.mC racc4 fun a ha => (no4 a ha).1
            have no5 : ∀ a ∈ os, a ∉ C5 ∧ a ∉ O5 ∧ M5 a ∧ a ≠ Dl ∧ (a ∈ O1 ∨ H1 a = none) := fun a ha => by
              obtain ⟨m1, m2, m3, m4, m5⟩ := no4 a ha
              obtain ⟨o, w⟩ := t4 a ha
              refine ⟨fun z => ?_, fun z => ?_, g5.forn a m3 m2, m4, m5⟩
              · rcases g5.newc0 a z with y | y
                · exact m1 y
                · rw [w] at y; cases y
              · rcases g5.ownd a z with y | y
                · exact m2 y
                · rw [w] at y; cases y
            have g45 := g34.trans fi1.ci.tr g5
            obtain ⟨O6, f6, s6⟩ := fi5.wiped vs
            rw [w3'] at f6
            have hlen : acc.length < sizeLine := by
              rw [racc.len]
              have : accD.length ≤ ys.length := by
                rw [← ey, List.length_append]
                exact Nat.le_add_right _ _
              exact big_lt (Nat.le_trans this hbig)
            have nv5 : ∀ a ∈ os5, a ≠ Dl := fun a ha z => by
              subst z
              rcases (n5 _ ha).2.2.2 with w | w
              · exact dO4 w
              · rw [tD4] at w; cases w
            have k5 : ∀ a o, ¬ M5 a → H5 a = some o → upd H5 Dl (.lst (acc ++ [v])) a = some o := fun a o h e => by rw [upd_ne (fun z => h (by rw [z]; exact mD5))]; exact e
            refine ⟨acc, tD5, hlen, by omega, C5, O6, M5, wipeE envC vs, stC, acc ++ [v], accD ++ [y], os ++ os5, zs, ⟨fun a o h1 _ h3 => ?_, g45.pre, g45.newc, g45.fresh, g45.forn, fun a ha => g45.ownd a (s6 a ha), fun a ha => ?_⟩, f6.fw mD5 dC5 fun z => dO5 (s6 _ z), upd_same, mD5, dC5, fun z => dO5 (s6 _ z), ?_, ?_, fun a ha => ?_, e6, ?_⟩
            · rw [upd_ne fun z => ?_]
              · exact g45.keep a o h1 (fun z => z.elim) h3
              · subst z
                rw [hD] at h3; cases h3
            · by_cases z : a = Dl
              · subst z
                exact hD
              · rw [upd_ne z] at ha
                exact g45.back a ha
            · exact (racc5.mono (fun _ _ e => e) k5 (fun _ _ h _ => h) fun a ha o e => by rw [upd_ne (no5 a ha).2.2.2.1]; exact e).app (RVs.one (r5.mono (fun _ _ e => e) k5 (fun _ _ h _ => h) fun a ha o e => by rw [upd_ne (nv5 a ha)]; exact e))
            · rw [List.nodup_append]
              refine ⟨ndo, nd5, fun a ha b hb z => ?_⟩
              subst z
              rcases (n5 a hb).2.2.2 with w | w
              · exact (no4 a ha).2.1 w
              · obtain ⟨o, y⟩ := t4 a ha
                rw [y] at w; cases w
            · rcases List.mem_append.mp ha with z | z
              · obtain ⟨m1, m2, m3, m4, m5⟩ := no5 a z
                exact ⟨m1, fun z => m2 (s6 a z), m3, m4, m5⟩
              · obtain ⟨m1, m2, m3, m4⟩ := n5 a z
                refine ⟨m1, fun z => m2 (s6 a z), m3, nv5 a z, ?_⟩
                rcases m4 with w | w
                · exact g34.ownd a w
                · exact .inr (g34.back a w)
            · rw [List.append_assoc]
              exact ey
    · cases e
  · cases e
end
end Pv

/-! # PvI -/
set_option Elab.async false
set_option linter.all false
set_option maxHeartbeats 1000000
/-! defs and their calls; no recursion guard stands around -/
namespace Pv
open PySem PySem.Spec PyProof.Rows L2
section
variable {X : Cx} {e c elt tg iter ex : Expr} {es ifs : List Expr} {pos : Pos} {w : WS} {js : List Nat} {gs : GS} {t : BS} {fe : ES} {fs : AS}
def STs (X : Cx) (ifs : List Expr) (t : BS) : Prop := PTs X ifs (tT X.K t)
def bYes : BS := fun env st => some (true, env, st)
theorem sts_nil : STs X [] bYes := ⟨fun pins s σ H Q I ⟨C, O, M, env, st, b, env', st', fi, e, q⟩ => by
  cases e
  exact pts_nil.run pins s σ H Q I (q H C O M .refl fi)⟩
theorem sts_one (h : ST X c t) : STs X [c] t := pts_one h
theorem se_lc {scope : Scope} {own : List (Str × Nat)} (hc : X.calm = true) (hN : X.N.Nodup) (hi : SI X tg iter w) (ok : blkC X.N X.env.scope scope own = true) (hj : js.all (fun j => (own.map (·.2)).contains j) = true) (ndv : (own.map (·.2)).Nodup)
    (hg : ∀ (s : Shared) (H : Hp) (C : Addr) (cl : List (Str × Addr)) (fp : List Addr), SG (X.blk s H scope (compEnvC scope cl C X.env) fp) tg js gs)
    (ht : ∀ (s : Shared) (H : Hp) (C : Addr) (cl : List (Str × Addr)) (fp : List Addr), STs (X.blk s H scope (compEnvC scope cl C X.env) fp) ifs t)
    (he : ∀ (s : Shared) (H : Hp) (C : Addr) (cl : List (Str × Addr)) (fp : List Addr), SE (X.blk s H scope (compEnvC scope cl C X.env) fp) elt fe) (hs : ∀ x, foldedSetIterable iter X.env x = pure x := by intro _; rfl) :
    SE X (.ListComp elt [⟨tg, iter, ifs, 0⟩] scope pos) (fComp w gs t fe (own.map (·.2))) := pe_weak (pe_lc (g := tG X.K js gs) (tt := tT X.K t) (te := tE X.K fe) hc hN hi (blkOk_by ok) hg ht he hs) fun σ H Q h => te_comp (fun j hm => by
      have := List.all_eq_true.mp hj j hm
      exact List.contains_iff_mem.mp this) ndv h
/-- y = [..], y a local -/
theorem s1_asgLc {i : Nat} {y : Str} {py spos : Pos} {scope : Scope} {own : List (Str × Nat)} (hc : X.calm = true) (hN : X.N.Nodup) (hy : X.N[i]? = some y) (hyl : X.env.scope.names.lookup y = some .local)
    (hsw : swapsWith (.ListComp elt [⟨tg, iter, ifs, 0⟩] scope pos) (some (.Name y py)) spos.line X.env = pure true) (hi : SI X tg iter w) (ok : blkC X.N X.env.scope scope own = true) (hj : js.all (fun j => (own.map (·.2)).contains j) = true) (ndv : (own.map (·.2)).Nodup)
    (hg : ∀ (s : Shared) (H : Hp) (C : Addr) (cl : List (Str × Addr)) (fp : List Addr), SG (X.blk s H scope (compEnvC scope cl C X.env) fp) tg js gs)
    (ht : ∀ (s : Shared) (H : Hp) (C : Addr) (cl : List (Str × Addr)) (fp : List Addr), STs (X.blk s H scope (compEnvC scope cl C X.env) fp) ifs t)
    (he : ∀ (s : Shared) (H : Hp) (C : Addr) (cl : List (Str × Addr)) (fp : List Addr), SE (X.blk s H scope (compEnvC scope cl C X.env) fp) elt fe) (hs : ∀ x, foldedSetIterable iter X.env x = pure x := by intro _; rfl) :
    SS1 X (.Assign [.Name y py] (.ListComp elt [⟨tg, iter, ifs, 0⟩] scope pos) spos) (sAsg i (fComp w gs t fe (own.map (·.2)))) :=
  ps_weak (ps_setLc (g := tG X.K js gs) (tt := tT X.K t) (te := tE X.K fe) hc hN hy hyl hsw hi (blkOk_by ok) hg ht he hs) fun _ _ _ h => ts_asg (fun σ H Q h => te_comp (fun j hm => List.contains_iff_mem.mp (List.all_eq_true.mp hj j hm)) ndv h) h
end

/-! ### what a def promises -/
abbrev FS := List D → Ms → Option (D × Ms)
def spM (K : PySem.W.Frag) (m : FS) : Sp := fun vs H Q _ => ∃ C M st ds r st', CI K C M H st ∧ RVs K C M H vs ds [] ∧ m ds st = some (r, st') ∧
  ∀ v H' M' os, Go False C [] M H C [] M' H' → CI K C M' H' st' → RV K C M' H' v r os → os.Nodup → (∀ a ∈ os, M' a ∧ H a = none) → Q v H'
def fin (st : Ms) (r : D) (st' : Ms) : Option (D × Ms) := if st'.length = st.length then some (r, st') else if r.nc = true ∧ st.length ≤ st'.length then some (r, st'.take st.length) else none
def mkFn (n np : Nat) (body : SS) : FS := fun ds st => if ds.length = np then match body (ds.map some ++ List.replicate (n - np) none) st with
    | some (.rt r st') => fin st r st'
    | some (.nx _ st') => fin st .non st'
    | _ => none
  else none
structure FnG (P : Program) (w : World) (K : PySem.W.Frag) (mg : Str → Option Value) (base : Heap) (k : Nat) (f : Addr) (fd : FuncData) (ps : List Str) (sp : Sp) : Prop where
  len : ∀ vs H Q E, sp vs H Q E → vs.length = ps.length
  run : ∀ (A : Around) (outer : List PySem.Env) (s : Shared) (H : Hp) (args : Args) (us : List Value) (vs : List V) (Q : VK) (E : XK), Room k A → A.guards = some [] → Env0 P w K mg base A outer s H →
    BindsTo s fd args (ps.zip us) → Vals vs us → sp vs H Q E → codeAny (model P w) A (.call (.ref f) args) (CR CX0 outer P w H s Q E) s
section
variable {P : Program} {w : World} {K : PySem.W.Frag} {mg : Str → Option Value} {base : Heap}
theorem FnG.up {j k : Nat} {f : Addr} {fd : FuncData} {ps : List Str} {sp : Sp} (F : FnG P w K mg base j f fd ps sp) (h : j ≤ k) : FnG P w K mg base k f fd ps sp := ⟨F.len, fun A outer s H args us vs Q E hr => F.run A outer s H args us vs Q E (hr.mono h)⟩
/-- a def of the text, by its body -/
theorem fnG_of {x qual : Str} {sd : Stmt} {f : Addr} {fd : FuncData} {N ps : List Str} {k : Nat} {sp : Sp} (F : Fun K x qual sd f fd) (S : FnScope N ps (defScope sd)) (len : ∀ vs H Q E, sp vs H Q E → vs.length = ps.length)
    (hbody : ∀ (cdv : Value) (A : Around) (outer : List PySem.Env) (s : Shared) (H : Hp) (vs : List V) (Q : VK) (E : XK), A.guards = some [] → Room k (A.deeper (envOfC qual (defScope sd) s.heap.objs.size f cdv)) → sp vs H Q E →
      ∃ t, PSs (cxOf CX0 P w K mg base N qual (defScope sd) f cdv A outer s H E).nox (defBody sd) t ∧ t { nx := fun _ H' => Q .non H', rt := Q } (L2.start N vs) H) : FnG P w K mg base (k + 1) f fd ps sp := by
  obtain ⟨oc, od, kV, doc, pm, an, cdv, ct, osl, rfl, lk, hcd⟩ := F.ex
  refine ⟨len, fun A outer s H args us vs Q E hr hgd e0 hb r hsp => ?_⟩
  have hvl := len _ _ _ _ hsp
  have KX : K.In s.heap := e0.mod.kin.keeps fun b o e => (e0.bs b o e).1
  have NL : s.heap.NoLimit := e0.mod.nolimit.keeps fun b o e => (e0.bs b o e).1
  have kinds : ∀ y ∈ ps.zip us, (defScope sd).names.lookup y.1 = some .local ∨ ((defScope sd).names.lookup y.1 = some .cell ∧ ((cellsFrom (s.heap.objs.size + 1) (defScope sd).names []).lookup y.1).isSome = true) := by
    rintro ⟨n, v⟩ hy
    rcases S.par n (List.of_mem_zip hy).1 with q | q
    · exact .inl q
    · exact .inr ⟨q, PySem.W.cellsFrom_some _ _ _ (.inl q)⟩
  refine codeAny_call_function hr.depth (KX _ _ lk) rfl S.co S.gen rfl (PySem.W.codeRec_of KX hcd) (hb _ _ _ _ ?_)
  refine wpAny_newFunctionEnv_cells S.kind kinds fun env he s1 x => ?_
  subst he
  refine ⟨NL.keeps x.toInCall.keep, codeAny_func ?_⟩
  obtain ⟨t, ht, hq⟩ := hbody cdv A outer s H vs Q E hgd (hr.deeper _) hsp
  have I : Inv (cxOf CX0 P w K mg base N qual (defScope sd) f cdv A outer s H E) [] (L2.start N vs) H s1 := inv_start S hr.hd e0 hvl r x
  refine wpAny_mono (ht.nox.run [] s1 (L2.start N vs) H _ I hq) (fun fl s' hs => ?_) fun e s' hs => hs
  cases fl with
  | ret u =>
    obtain ⟨v, σ', H', J, rv, q⟩ := hs
    exact ⟨v, H', J.os, J.bare, J.base, J.hok, rv, q⟩
  | next =>
    obtain ⟨σ', H', J, q⟩ := hs
    exact ⟨V.non, H', J.os, J.bare, J.base, J.hok, (rfl : Value.none = Value.none), q⟩
  | brk =>
    obtain ⟨_, _, _, q⟩ := hs
    exact False.elim q
  | cont =>
    obtain ⟨_, _, _, q⟩ := hs
    exact False.elim q
theorem rsl_nones {C : List Addr} {M : Addr → Prop} {H : Hp} : ∀ n : Nat, RSl K C M H (List.replicate n none) (List.replicate n none) []
  | 0 => .nil
  | n + 1 => .no (rsl_nones n)
theorem rsl_start {C : List Addr} {M : Addr → Prop} {H : Hp} {n : Nat} : ∀ {vs : List V} {ds : List D} {os : List Addr}, RVs K C M H vs ds os → os = [] → RSl K C M H (vs.map some ++ List.replicate n none) (ds.map some ++ List.replicate n none) []
  | _, _, _, .nil, _ => rsl_nones n
  | _, _, _, .cons h r, e => by
    obtain ⟨e1, e2⟩ := List.append_eq_nil_iff.mp e
    subst e1 e2
    exact RSl.so (o := []) (O := []) h (rsl_start r rfl)
theorem fin_ok {C C' O' : List Addr} {M M' : Addr → Prop} {H H' : Hp} {st st1 st' : Ms} {d r : D} {v : V} {os : List Addr} {Q : VK} (ci : CI K C M H st) (hf : fin st d st1 = some (r, st')) (g : Go True C [] M H C' O' M' H') (ci' : CI K C' M' H' st1) (rv : RV K C' M' H' v d os) (nd : os.Nodup) (n : ∀ a ∈ os, M' a ∧ H a = none)
    (q : ∀ v H' M' os, Go False C [] M H C [] M' H' → CI K C M' H' st' → RV K C M' H' v r os → os.Nodup → (∀ a ∈ os, M' a ∧ H a = none) → Q v H') : Q v H' := by
  have g2 : Go False C [] M H C [] M' H' := ⟨fun a o h1 _ h3 => g.keep a o h1 (fun _ z => nomatch z) h3, ⟨[], (List.append_nil C).symm⟩, fun _ h => .inl h, g.fresh, g.forn, (fun _ h => nomatch h), g.back⟩
  obtain ⟨C1, eC⟩ := g.pre
  unfold fin at hf
  split at hf
  · rename_i hl
    cases hf
    have e : C' = C := by
      have h1 := ci'.len
      rw [hl, ci.len, eC, List.length_append] at h1
      have : C1 = [] := List.length_eq_zero_iff.mp (by omega)
      rw [eC, this, List.append_nil]
    subst e
    exact q v H' M' os g2 ci' rv nd n
  · split at hf
    · rename_i h2
      cases hf
      refine q v H' M' os g2 ⟨by rw [List.length_take, Nat.min_eq_left h2.2]; exact ci.len, fun i ds p e1 e2 => ?_, ci.nd, fun p hp => ci'.mC p (by rw [eC]; exact List.mem_append_left _ hp), ci'.tr⟩ (rv.free h2.1) nd n
      have hi : i < C.length := (List.getElem?_eq_some_iff.mp e2).1
      rw [List.getElem?_take_of_lt (by rw [ci.len]; exact hi)] at e1
      exact ci'.at_ i ds p e1 (by rw [eC, List.getElem?_append_left hi]; exact e2)
    · cases hf
/-- THE RULE -/
theorem fn_mk {x qual : Str} {sd : Stmt} {f : Addr} {fd : FuncData} {N ps : List Str} {k : Nat} {body : SS} (F : Fun K x qual sd f fd) (S : FnScope N ps (defScope sd)) (hpn : ps.length ≤ N.length)
    (hbody : ∀ (cdv : Value) (A : Around) (outer : List PySem.Env) (s : Shared) (H : Hp) (E : XK), A.guards = some [] → Room k (A.deeper (envOfC qual (defScope sd) s.heap.objs.size f cdv)) → SSs (cxOf CX0 P w K mg base N qual (defScope sd) f cdv A outer s H E).nox (defBody sd) body) :
    FnG P w K mg base (k + 1) f fd ps (spM K (mkFn N.length ps.length body)) := by
  refine fnG_of F S (fun vs H Q E h => ?_) fun cdv A outer s H vs Q E hgd hr h => ?_
  · obtain ⟨C, M, st, ds, r, st', ci, rv, e, q⟩ := h
    unfold mkFn at e
    split at e
    · rename_i hl
      exact rv.len.trans hl
    · cases e
  · obtain ⟨C, M, st, ds, r, st', ci, rv, e, q⟩ := h
    refine ⟨_, hbody cdv A outer s H E hgd hr, ?_⟩
    unfold mkFn at e
    split at e
    · rename_i hl
      have hvl : vs.length = ps.length := rv.len.trans hl
      have fi : FI K C [] M H (L2.start N vs) (ds.map some ++ List.replicate (N.length - ps.length) none) st := by
        refine ⟨ci, ?_, .nil, (fun a z => nomatch z), (fun a z => nomatch z)⟩
        unfold L2.start
        rw [hvl]
        exact rsl_start rv rfl
      split at e
      · rename_i d st1 e1
        refine ⟨C, [], M, _, st, _, fi, e1, fun v H' C' O' M' os g ci' rv' nd n => fin_ok ci e g ci' rv' nd (fun a ha => ?_) q⟩
        obtain ⟨_, m2, m3⟩ := n a ha
        exact ⟨m2, m3.elim (fun z => nomatch z) id⟩
      · rename_i env1 st1 e1
        refine ⟨C, [], M, _, st, _, fi, e1, fun σ' H' C' O' M' g fi' => fin_ok (os := []) ci e g fi'.ci .non .nil (fun a ha => nomatch ha) q⟩
      · cases e
    · cases e
end

/-! ### calls -/
section
variable {X : Cx} {k : Nat} {f : Addr} {fd : FuncData} {ps ks : List Str} {sp : Sp} {x : Str} {p pos : Pos} {e : Expr} {es : List Expr} {kws : List Keyword} {ta tk : TA} {m : FS} {fs fk : AS}
theorem run_G {pins : List (Addr × Obj)} {σ : L2.St} {H : Hp} {s : Shared} {Q : VK} {us : List Value} {kw : List (Str × Value)} {zs : List Value} {vs : List V} (F : FnG X.prog X.w X.K X.mg X.base k f fd ps sp) (hr : Room k X.A) (hgd : X.A.guards = some [])
    (hb : BindsTo s fd ⟨us, kw⟩ (ps.zip zs)) (I : Inv X pins σ H s) (r : Vals vs zs) (h : sp vs H Q E0) : wpAny (model X.prog X.w) X.A (call (.ref f) us kw) (EP X pins σ Q) X.xe s := by
  refine wpAny_call (codeAny_mono (F.run X.A X.stack s H ⟨us, kw⟩ zs vs Q E0 hr hgd I.env0 hb r h) fun r s' hq => ?_)
  cases r with
  | error e => exact hq.elim
  | ok fl =>
    cases fl with
    | ret u => exact I.after hq
    | next => exact False.elim hq
    | brk => exact False.elim hq
    | cont => exact False.elim hq
theorem pe_callG (F : FnG X.prog X.w X.K X.mg X.base k f fd ps sp) (hr : Room k X.A) (hgd : X.A.guards = some []) (hg : Gl X x) (hm : X.mg x = some (.ref f)) (hk : PySem.W.keepIn X.K (.ref f) = true) (hb : Binds X.K fd ps []) (ha : PA X (e :: es) ta)
    (hdb : (x == ("__debug__" : Str)) = false := by decide) (he : starEach (e :: es) X.env = (false, eval e X.env) :: starEach es X.env := by rfl) (hpl : (backTo pos (starEach es X.env)).any (·.1) = false := by rfl) :
    PE X (.Call (.Name x p) (e :: es) [] pos) (fun σ H Q => ta σ H fun vs H1 => sp vs H1 Q E0) := by
  refine ⟨fun pins s σ H Q I h => wpAny_Call_Name_kw (ld_glob I hg hm ?_ hdb)⟩
  refine PySem.W.callWith_K (h₀ := X.base) I.ok.mod.kin hk (thn (ha.run pos pins s σ H _ I h) fun us s1 ⟨vs, H1, I1, r, q⟩ => ⟨I1.kIn, ?_⟩) he hpl
  have hl : (us ++ []).length = ps.length := by rw [List.append_nil, ← r.length]; exact F.len _ _ _ _ q
  have hb' := hb s1 us I1.kIn hl
  rw [List.append_nil] at hb'
  exact run_G F hr hgd hb' I1 r q
/-- how keywords bind: pm puts the positional and the keywords' values in the parameters' order -/
structure KB (K : PySem.W.Frag) (fd : FuncData) (ps ks : List Str) (n : Nat) (pm : {α : Type} → List α → List α → List α) : Prop where
  to : ∀ (s : Shared) (us ws : List Value), K.In s.heap → us.length = n → ws.length = ks.length → BindsTo s fd ⟨us, ks.zip ws⟩ (ps.zip (pm us ws))
  rel : ∀ {α β : Type} (R : α → β → Prop) {vs zs : List α} {us ws : List β}, vs.length = n → zs.length = ks.length → Paired R vs us → Paired R zs ws → Paired R (pm vs zs) (pm us ws)
theorem pe_callKG {n : Nat} {pm : {α : Type} → List α → List α → List α} (F : FnG X.prog X.w X.K X.mg X.base k f fd ps sp) (hr : Room k X.A) (hgd : X.A.guards = some []) (hg : Gl X x) (hm : X.mg x = some (.ref f)) (hk : PySem.W.keepIn X.K (.ref f) = true) (hb : KB X.K fd ps ks n pm)
    (ha : PA X (e :: es) ta) (hkw : PK X kws tk) (hall : (backToKw pos (keywordEach kws X.env)).all (·.1.isSome) = true := by rfl) (hks : (backToKw pos (keywordEach kws X.env)).filterMap (·.1) = ks := by rfl)
    (hdb : (x == ("__debug__" : Str)) = false := by decide) (he : starEach (e :: es) X.env = (false, eval e X.env) :: starEach es X.env := by rfl)
    (hpl : ((backTo pos (starEach (e :: es) X.env)).any (·.1) || (backToKw pos (keywordEach kws X.env)).any (·.1.isNone)) = false := by rfl) :
    PE X (.Call (.Name x p) (e :: es) kws pos) (fun σ H Q => ta σ H fun vs H1 => tk σ H1 fun zs H2 => vs.length = n ∧ zs.length = ks.length ∧ sp (pm vs zs) H2 Q E0) := by
  refine ⟨fun pins s σ H Q I h => wpAny_Call_Name_kw (ld_glob I hg hm ?_ hdb)⟩
  refine PySem.W.callWith_KW (h₀ := X.base) I.ok.mod.kin hk hall (thn (ha.run pos pins s σ H _ I h) fun us s1 ⟨vs, H1, I1, r, q⟩ => ?_) hpl he
  refine thn (hkw.run pos pins s1 σ H1 _ I1 q) fun ws s2 ⟨zs, H2, I2, rz, l1, l2, q2⟩ => ⟨I2.kIn, ?_⟩
  rw [hks]
  exact run_G F hr hgd (hb.to s2 us ws I2.kIn (r.length.symm.trans l1) (rz.length.symm.trans l2)) I2 (hb.rel RelV l1 l2 r rz) q2
theorem pe_callKG0 {pm : {α : Type} → List α → List α → List α} (F : FnG X.prog X.w X.K X.mg X.base k f fd ps sp) (hr : Room k X.A) (hgd : X.A.guards = some []) (hg : Gl X x) (hm : X.mg x = some (.ref f)) (hk : PySem.W.keepIn X.K (.ref f) = true) (hb : KB X.K fd ps ks 0 pm)
    (hkw : PK X kws tk) (hall : (backToKw pos (keywordEach kws X.env)).all (·.1.isSome) = true := by rfl) (hks : (backToKw pos (keywordEach kws X.env)).filterMap (·.1) = ks := by rfl)
    (hdb : (x == ("__debug__" : Str)) = false := by decide)
    (hpl : ((backTo pos (starEach [] X.env)).any (·.1) || (backToKw pos (keywordEach kws X.env)).any (·.1.isNone)) = false := by rfl) :
    PE X (.Call (.Name x p) [] kws pos) (fun σ H Q => tk σ H fun zs H2 => zs.length = ks.length ∧ sp (pm [] zs) H2 Q E0) := by
  refine ⟨fun pins s σ H Q I h => wpAny_Call_Name_kw (ld_glob I hg hm ?_ hdb)⟩
  refine PySem.W.callWith_KW0 (h₀ := X.base) I.ok.mod.kin hk hall ?_ hpl
  refine thn (hkw.run pos pins s σ H _ I h) fun ws s2 ⟨zs, H2, I2, rz, l2, q2⟩ => ⟨I2.kIn, ?_⟩
  rw [hks]
  exact run_G F hr hgd (hb.to s2 [] ws I2.kIn rfl (rz.length.symm.trans l2)) I2 (hb.rel RelV rfl l2 .nil rz) q2
def fCall (m : FS) (fs : AS) : ES := fun env st => (fs env st).bind fun x => (m x.1 x.2.2).map fun y => (y.1, x.2.1, y.2)
theorem call_done {K : PySem.W.Frag} {C O C1 O1 : List Addr} {M M1 M2 : Addr → Prop} {H H1 H2 : Hp} {σ : L2.St} {env env1 : Env} {st st1 st2 : Ms} {r : D} {v : V} {os : List Addr} {Q : VK} (fi : FI K C O M H σ env st) (g1 : Go False C O M H C1 O1 M1 H1) (fi1 : FI K C1 O1 M1 H1 σ env1 st1)
    (q : ∀ v H' C' O' M' os, Go False C O M H C' O' M' H' → FI K C' O' M' H' σ env1 st2 → RV K C' M' H' v r os → os.Nodup → (∀ a ∈ os, a ∉ C' ∧ a ∉ O' ∧ M' a ∧ (a ∈ O ∨ H a = none)) → Q v H')
    (g : Go False C1 [] M1 H1 C1 [] M2 H2) (ci : CI K C1 M2 H2 st2) (rv : RV K C1 M2 H2 v r os) (nd : os.Nodup) (n : ∀ a ∈ os, M2 a ∧ H1 a = none) : Q v H2 := by
  have up : ∀ a, M1 a → M2 a := fun a h => g.forn a h (fun z => nomatch z)
  have g2 : Go False C1 O1 M1 H1 C1 O1 M2 H2 := ⟨fun a o h1 _ h3 => g.keep a o h1 (fun z => z.elim) h3, ⟨[], (List.append_nil _).symm⟩, fun _ h => .inl h, g.fresh, fun a h _ => up a h, fun _ h => .inl h, g.back⟩
  have f2 : FI K C1 O1 M2 H2 σ env1 st2 := ⟨ci, fi1.sl.mono (fun _ _ e => e) (fun a o h e => g.keep a o (fun z => h (fi1.ci.mC a z)) (fun z => z.elim) e) (fun a o h e z => by
    rcases g.fresh a z with y | y
    · exact h y
    · rw [e] at y; cases y) fun a ha o e => g.keep a o (fi1.oc a ha) (fun z => z.elim) e, fi1.od, fi1.oc, fun a h => up a (fi1.mO a h)⟩
  exact q v H2 C1 O1 M2 os (g1.trans fi.ci.tr g2) f2 rv nd fun a ha => ⟨fi1.noC (n a ha).2, fi1.noO (n a ha).2, (n a ha).1, .inr (g1.back a (n a ha).2)⟩
theorem se_call (F : FnG X.prog X.w X.K X.mg X.base k f fd ps (spM X.K m)) (hr : Room k X.A) (hgd : X.A.guards = some []) (hg : Gl X x) (hm : X.mg x = some (.ref f)) (hk : PySem.W.keepIn X.K (.ref f) = true) (hb : Binds X.K fd ps []) (ha : SZs X (e :: es) fs)
    (hdb : (x == ("__debug__" : Str)) = false := by decide) (he : starEach (e :: es) X.env = (false, eval e X.env) :: starEach es X.env := by rfl) (hpl : (backTo pos (starEach es X.env)).any (·.1) = false := by rfl) :
    SE X (.Call (.Name x p) (e :: es) [] pos) (fCall m fs) := pe_weak (pe_callG F hr hgd hg hm hk hb ha hdb he hpl) fun σ H Q ⟨C, O, M, env, st, d, env', st', fi, e, q⟩ => by
  unfold fCall at e
  rw [Option.bind_eq_some_iff] at e
  obtain ⟨⟨ds, env1, st1⟩, e1, e⟩ := e
  rw [Option.map_eq_some_iff] at e
  obtain ⟨⟨r, st2⟩, e2, e⟩ := e
  simp only [Prod.mk.injEq] at e
  obtain ⟨e3, e4, e5⟩ := e
  subst e3 e4 e5
  exact ⟨C, O, M, env, st, ds, env1, st1, fi, e1, fun vs H1 C1 O1 M1 g1 fi1 rv1 => ⟨C1, M1, st1, ds, r, st2, fi1.ci, rv1, e2, fun v H2 M2 os g ci rv nd n => call_done fi g1 fi1 q g ci rv nd n⟩⟩
end
end Pv

/-! # PvJ -/
set_option Elab.async false
set_option linter.all false
set_option maxHeartbeats 1000000
/-! operations -/
namespace Pv
open PySem PySem.Spec PyProof.Rows L2
/-- a list's items, whoever owns it -/
def D.li : D → Option (List D)
  | .lst l => some l
  | .own l => if D.ofs l = true then some l else none
  | _ => none
section
variable {X : Cx} {K : PySem.W.Frag} {C : List Addr} {M : Addr → Prop} {H : Hp} {st : Ms} {v v1 v2 : V} {d d1 d2 : D} {o o1 o2 : List Addr} {Q : VK}
theorem li_ok {l : List D} (h : d.li = some l) (r : RV K C M H v d o) : ∃ p xs, v = .ref p ∧ H p = some (.lst xs) ∧ RVs K C M H xs l [] := by
  cases r with
  | @lst p xs _ h1 r1 =>
    simp only [D.li, Option.some.injEq] at h
    subst h
    exact ⟨p, xs, rfl, h1.1, r1⟩
  | @own p xs _ o2 h1 r1 =>
    simp only [D.li] at h
    split at h
    · rename_i hf
      cases h
      obtain rfl := r1.of hf
      exact ⟨p, xs, rfl, h1, r1⟩
    · cases h
  | non => cases h
  | bl => cases h
  | int => cases h
  | str => cases h
  | tup => cases h
  | cell => cases h
  | scr => cases h
/-- a new list, a new tuple, as answers -/
theorem ans_new {l : List D} {xs : List V} {p : Addr} (ci : CI K C M H st) (r : RVs K C M H xs l []) (q : Ans K C M H (.own l) Q) (hp : H p = none) : Q (.ref p) (upd H p (.lst xs)) := by
  have gr : Gr M H (fun a => M a ∨ a = p) (upd H p (.lst xs)) := .own ci.tr hp
  exact q _ _ _ [p] gr (.own upd_same (gr.rvs r)) (by simp) fun a ha => by
    have e : a = p := by simpa using ha
    subst e
    exact ⟨.inr rfl, hp⟩
theorem ans_tup {l : List D} {xs : List V} {p : Addr} (ci : CI K C M H st) (r : RVs K C M H xs l []) (q : Ans K C M H (.tup l) Q) (hp : H p = none) : Q (.ref p) (upd H p (.tup xs)) := by
  have gr : Gr M H M (upd H p (.tup xs)) := .tup ci.tr hp
  exact q _ _ _ [] gr (.tup (.inl ⟨upd_same, fun z => by
    obtain ⟨o, w⟩ := ci.tr p z
    rw [hp] at w; cases w⟩) (gr.rvs r)) .nil fun a ha => nomatch ha
theorem ti_ok {l : List D} (r : RV K C M H v (.tup l) o) (hf : D.ofs l = true) : ∃ p xs, v = .ref p ∧ SqT K H p xs ∧ RVs K C M H xs l [] := by
  cases r with
  | @tup p xs _ _ h r =>
    obtain rfl := r.of hf
    refine ⟨p, xs, rfl, ?_, r⟩
    rcases h with h | h
    · exact SqT.of h.1
    · exact h H

/-! ### + -/
def addD (_ : Ms) (a b : D) : Option D := match a, b with
  | .int i, .int j => some (.int (i + j))
  | .tup l, .tup m => if D.ofs l = true ∧ D.ofs m = true ∧ l.length + m.length ≤ BIG then some (.tup (l ++ m)) else none
  | .str x, .str y => if x.length + y.length ≤ BIG then some (.str (x ++ y)) else none
  | a, b => a.li.bind fun l => b.li.bind fun m => if l.length + m.length ≤ BIG then some (.own (l ++ m)) else none
def rStrAdd : R2 := fun x y H Q => ∃ i j, x = .str i ∧ y = .str j ∧ i.length + j.length ≤ sizeLine ∧ Q (.str (i ++ j)) H
def rAdd4 (K : PySem.W.Frag) : R2 := fun x y H Q => rI0 (fun i j => .int (i + j)) x y H Q ∨ rCatA K x y H Q ∨ rStrAdd x y H Q ∨ rCat x y H Q
theorem or_add : OpR X (binaryOp .Add) (rAdd4 X.K) := op_add.or (op_catA.or (op_add_str.or op_cat))
theorem ok_add : OpOk K (rAdd4 K) addD := by
  intro C M H st v1 d1 o1 v2 d2 o2 res Q ci r1 r2 e q
  unfold addD at e
  split at e
  · cases e
    cases r1
    cases r2
    exact .inl ⟨_, _, rfl, rfl, q.val ci (.int _)⟩
  · rename_i l m
    split at e
    · rename_i hc
      cases e
      obtain ⟨p, xs, rfl, t1, s1⟩ := ti_ok r1 hc.1
      obtain ⟨p2, ys, rfl, t2, s2⟩ := ti_ok r2 hc.2.1
      refine .inr (.inl ⟨p, p2, xs, ys, rfl, rfl, t1, t2, by rw [s1.len, s2.len]; exact big_size hc.2.2, fun z => ?_, fun _ z => ?_, fun _ _ p hp => ans_tup ci (s1.app0 s2) q hp⟩)
      · have hl : l = [] := List.length_eq_zero_iff.mp (by rw [← s1.len, z]; rfl)
        subst hl
        cases r2 with
        | @tup _ _ _ _ h r => 
          have := r.of hc.2.1
          subst this
          exact q.val ci (.tup h r)
      · have hl : m = [] := List.length_eq_zero_iff.mp (by rw [← s2.len, z]; rfl)
        subst hl
        rw [List.append_nil] at q
        cases r1 with
        | @tup _ _ _ _ h r => 
          have := r.of hc.1
          subst this
          exact q.val ci (.tup h r)
    · cases e
  · split at e
    · rename_i hc
      cases e
      cases r1
      cases r2
      exact .inr (.inr (.inl ⟨_, _, rfl, rfl, big_size hc, q.val ci (.str _)⟩))
    · cases e
  · rw [Option.bind_eq_some_iff] at e
    obtain ⟨l, e1, e⟩ := e
    rw [Option.bind_eq_some_iff] at e
    obtain ⟨m, e2, e⟩ := e
    split at e
    · rename_i hc
      cases e
      obtain ⟨p, xs, rfl, t1, s1⟩ := li_ok e1 r1
      obtain ⟨p2, ys, rfl, t2, s2⟩ := li_ok e2 r2
      exact .inr (.inr (.inr ⟨p, p2, xs, ys, rfl, rfl, t1, t2, by rw [s1.len, s2.len]; exact big_size hc, fun p hp => ans_new ci (s1.app0 s2) q hp⟩))
    · cases e
/-! ### - * // % ** -/
def subD (_ : Ms) (a b : D) : Option D := match a, b with
  | .int i, .int j => some (.int (i - j))
  | _, _ => none
theorem ok_sub : OpOk K (rI0 fun i j => .int (i - j)) subD := by
  intro C M H st v1 d1 o1 v2 d2 o2 res Q ci r1 r2 e q
  unfold subD at e
  split at e
  · cases e
    cases r1
    cases r2
    exact ⟨_, _, rfl, rfl, q.val ci (.int _)⟩
  · cases e
def small64 (i : Int) : Bool := decide (-(2 ^ 64) < i ∧ i < 2 ^ 64)
def mulD (_ : Ms) (a b : D) : Option D := match a, b with
  | .int i, .int j => if small64 i = true ∨ small64 j = true then some (.int (i * j)) else none
  | .tup l, .int k => if D.ofs l = true ∧ l ≠ [] ∧ 2 ≤ k ∧ k ≤ 1000 ∧ l.length ≤ 1000 then some (.tup (List.replicate k.toNat l).flatten) else none
  | a, .int k => a.li.bind fun l => if -(2 ^ 63) ≤ k ∧ k < 2 ^ 63 ∧ l.length * k.toNat ≤ BIG then some (.own (List.replicate k.toNat l).flatten) else none
  | _, _ => none
def rMul3 (K : PySem.W.Frag) : R2 := fun x y H Q => rI CMul (fun i j => .int (i * j)) x y H Q ∨ rRepT K x y H Q ∨ rRep x y H Q
theorem or_mul : OpR X (binaryOp .Mult) (rMul3 X.K) := op_mul.or (op_repT.or op_rep)
theorem RVs.reps {xs : List V} {l : List D} (r : RVs K C M H xs l []) : ∀ n : Nat, RVs K C M H (List.replicate n xs).flatten (List.replicate n l).flatten []
  | 0 => .nil
  | n + 1 => by
    rw [List.replicate_succ, List.replicate_succ, List.flatten_cons, List.flatten_cons]
    exact r.app0 (r.reps n)
theorem ok_mul : OpOk K (rMul3 K) mulD := by
  intro C M H st v1 d1 o1 v2 d2 o2 res Q ci r1 r2 e q
  unfold mulD at e
  split at e
  · split at e
    · rename_i hc
      cases e
      cases r1
      cases r2
      refine .inl ⟨_, _, rfl, rfl, ?_, q.val ci (.int _)⟩
      rcases hc with h | h
      · exact .inl (of_decide_eq_true h)
      · exact .inr (of_decide_eq_true h)
    · cases e
  · split at e
    · rename_i l k hc
      cases e
      cases r2
      obtain ⟨p, xs, rfl, t1, s1⟩ := ti_ok r1 hc.1
      exact .inr (.inl ⟨p, _, xs, rfl, rfl, t1, fun z => hc.2.1 (List.length_eq_zero_iff.mp (by rw [← s1.len, z]; rfl)), hc.2.2.1, hc.2.2.2.1, by rw [s1.len]; exact hc.2.2.2.2, fun p hp => ans_tup ci (s1.reps _) q hp⟩)
    · cases e
  · rw [Option.bind_eq_some_iff] at e
    obtain ⟨l, e1, e⟩ := e
    split at e
    · rename_i hc
      cases e
      cases r2
      obtain ⟨p, xs, rfl, t1, s1⟩ := li_ok e1 r1
      exact .inr (.inr ⟨p, _, xs, rfl, rfl, t1, hc.1, hc.2.1, by rw [s1.len]; exact big_size hc.2.2, fun p hp => ans_new ci (s1.reps _) q hp⟩)
    · cases e
  · cases e
def small30 (j : Int) : Bool := decide (j ≠ 0 ∧ j.natAbs < 1073741824)
def fdivD (_ : Ms) (a b : D) : Option D := match a, b with
  | .int i, .int j => if small30 j = true then some (.int (i.fdiv j)) else none
  | _, _ => none
theorem ok_fdiv : OpOk K (rI CDivN fun i j => .int (i.fdiv j)) fdivD := by
  intro C M H st v1 d1 o1 v2 d2 o2 res Q ci r1 r2 e q
  unfold fdivD at e
  split at e
  · split at e
    · rename_i i j hc
      have hc2 : j ≠ 0 ∧ j.natAbs < 1073741824 := of_decide_eq_true hc
      cases e
      cases r1
      cases r2
      exact ⟨_, _, rfl, rfl, hc2, q.val ci (.int _)⟩
    · cases e
  · cases e
def modD (_ : Ms) (a b : D) : Option D := match a, b with
  | .int i, .int j => if j ≠ 0 then some (.int (i.fmod j)) else none
  | _, _ => none
theorem ok_mod : OpOk K (rI (fun _ j => j ≠ 0) fun i j => .int (i.fmod j)) modD := by
  intro C M H st v1 d1 o1 v2 d2 o2 res Q ci r1 r2 e q
  unfold modD at e
  split at e
  · split at e
    · rename_i hc
      cases e
      cases r1
      cases r2
      exact ⟨_, _, rfl, rfl, hc, q.val ci (.int _)⟩
    · cases e
  · cases e
def okPow (i j : Int) : Bool := decide (0 ≤ j ∧ j ≤ 1000000 ∧ i.natAbs < 2 ^ 64)
def powD (_ : Ms) (a b : D) : Option D := match a, b with
  | .int i, .int j => if okPow i j = true then some (.int (i ^ j.toNat)) else none
  | _, _ => none
theorem ok_pow : OpOk K (rI CPow fun i j => .int (i ^ j.toNat)) powD := by
  intro C M H st v1 d1 o1 v2 d2 o2 res Q ci r1 r2 e q
  unfold powD at e
  split at e
  · split at e
    · rename_i i j hc
      have hc2 : 0 ≤ j ∧ j ≤ 1000000 ∧ i.natAbs < 2 ^ 64 := of_decide_eq_true hc
      cases e
      cases r1
      cases r2
      exact ⟨_, _, rfl, rfl, hc2, q.val ci (.int _)⟩
    · cases e
  · cases e
def negD (_ : Ms) (a : D) : Option D := match a with
  | .int i => some (.int (-i))
  | _ => none
theorem ok_neg : UnOk K (rU fun i => .int (-i)) negD := by
  intro C M H st v1 d1 o1 res Q ci r1 e q
  unfold negD at e
  split at e
  · cases e
    cases r1
    exact ⟨_, rfl, q.val ci (.int _)⟩
  · cases e
/-! ### < <= > >= -/
def cmpD (p : Int → Int → Bool) (_ : Ms) (a b : D) : Option D := match a, b with
  | .int i, .int j => some (.bl (p i j))
  | _, _ => none
theorem ok_cmp {p : Int → Int → Bool} : OpOk K (rI0 fun i j => .bl (p i j)) (cmpD p) := by
  intro C M H st v1 d1 o1 v2 d2 o2 res Q ci r1 r2 e q
  unfold cmpD at e
  split at e
  · cases e
    cases r1
    cases r2
    exact ⟨_, _, rfl, rfl, q.val ci (.bl _)⟩
  · cases e
abbrev ltD := cmpD fun i j => decide (i < j)
abbrev leD := cmpD fun i j => decide (i ≤ j)
abbrev gtD := cmpD fun i j => decide (j < i)
abbrev geD := cmpD fun i j => decide (j ≤ i)
/-! ### == != is -/
mutual
def D.py : D → PyData
  | .non => .none | .bl b => .bool b | .int i => .int i | .str s => .str s
  | .tup l => .tuple (D.pys l) | .lst l => .list (D.pys l) | .own l => .list (D.pys l)
  | .cell _ => .none | .scr ns => .list (ns.map PyData.int)
def D.pys : List D → List PyData
  | [] => []
  | d :: l => d.py :: D.pys l
end
theorem dp_ints : ∀ ns : List Int, DpAll K H (ns.map V.int) (ns.map PyData.int)
  | [] => .nil
  | n :: r => .cons (.int n) (dp_ints r)
mutual
theorem RV.dp : ∀ {v : V} {d : D} {os : List Addr}, RV K C M H v d os → d.nc = true → Dp K H v d.py
  | _, _, _, .non, _ => by simp only [D.py]; exact .non
  | _, _, _, .bl b, _ => by simp only [D.py]; exact .bl b
  | _, _, _, .int i, _ => by simp only [D.py]; exact .int i
  | _, _, _, .str s, _ => by simp only [D.py]; exact .str s
  | _, _, _, .tup h r, q => by
    simp only [D.py]
    refine .tup ?_ (r.dp (by simpa only [D.nc] using q))
    rcases h with h | h
    · exact SqT.of h.1
    · exact h H
  | _, _, _, .lst h r, q => by
    simp only [D.py]
    exact .lst (SqL.of h.1) (r.dp (by simpa only [D.nc] using q))
  | _, _, _, .own h r, q => by
    simp only [D.py]
    exact .lst (SqL.of h) (r.dp (by simpa only [D.nc] using q))
  | _, _, _, .cell h, q => by simp only [D.nc] at q; cases q
  | _, _, _, .scr h, q => by
    simp only [D.py]
    refine .lst ?_ (dp_ints _)
    rcases h with h | h
    · exact .inl h.1
    · exact h H
theorem RVs.dp : ∀ {vs : List V} {ds : List D} {os : List Addr}, RVs K C M H vs ds os → D.ncs ds = true → DpAll K H vs (D.pys ds)
  | _, _, _, .nil, _ => by simp only [D.pys]; exact .nil
  | _, _, _, .cons h r, q => by
    simp only [D.ncs, Bool.and_eq_true] at q
    simp only [D.pys]
    exact .cons (h.dp q.1) (r.dp q.2)
end
/-- equality: of scalars, else of data -/
def eqB (a b : D) : Option Bool := match a, b with
  | .non, .non => some true
  | .int i, .int j => some (decide (i = j))
  | .bl i, .bl j => some (decide (i = j))
  | .str i, .str j => some (decide (i = j))
  | .non, .int _ => some false | .int _, .non => some false | .non, .bl _ => some false | .bl _, .non => some false | .non, .str _ => some false | .str _, .non => some false
  | .int _, .str _ => some false | .str _, .int _ => some false | .bl _, .str _ => some false | .str _, .bl _ => some false
  | a, b => if a.nc = true ∧ b.nc = true ∧ SeqAt.shaped a.py = true ∧ SeqAt.shaped b.py = true then some (PyData.eqv a.py b.py) else none
def eqD (_ : Ms) (a b : D) : Option D := (eqB a b).map .bl
def neD (_ : Ms) (a b : D) : Option D := (eqB a b).map fun x => .bl (!x)
def rEq2 (K : PySem.W.Frag) : R2 := fun x y H Q => rEq x y H Q ∨ rEqD K x y H Q
def rNe2 (K : PySem.W.Frag) : R2 := fun x y H Q => rNe x y H Q ∨ rNeD K x y H Q
theorem or_eq (hu : X.A.units + 64 < cLine) : OpR X (compareOp .Eq) (rEq2 X.K) := op_eq.or (op_eqD hu)
theorem or_ne (hu : X.A.units + 64 < cLine) : OpR X (compareOp .NotEq) (rNe2 X.K) := op_ne.or (op_neD hu)
theorem eqB_ok {b : Bool} (r1 : RV K C M H v1 d1 o1) (r2 : RV K C M H v2 d2 o2) (e : eqB d1 d2 = some b) :
    (scal v1 v2 = true ∧ decide (v1 = v2) = b) ∨ (Dp K H v1 d1.py ∧ Dp K H v2 d2.py ∧ SeqAt.shaped d1.py = true ∧ SeqAt.shaped d2.py = true ∧ PyData.eqv d1.py d2.py = b) := by
  unfold eqB at e
  split at e
  case h_15 =>
    split at e
    · rename_i hc
      cases e
      exact .inr ⟨r1.dp hc.1, r2.dp hc.2.1, hc.2.2.1, hc.2.2.2, rfl⟩
    · cases e
  all_goals
    cases e
    cases r1
    cases r2
    refine .inl ⟨rfl, ?_⟩
    first
    | rfl
    | simp
theorem ok_eq : OpOk K (rEq2 K) eqD := by
  intro C M H st v1 d1 o1 v2 d2 o2 res Q ci r1 r2 e q
  unfold eqD at e
  rw [Option.map_eq_some_iff] at e
  obtain ⟨b, e, rfl⟩ := e
  have qb := q.val ci (.bl b)
  rcases eqB_ok r1 r2 e with ⟨h1, h2⟩ | ⟨h1, h2, h3, h4, h5⟩
  · refine .inl ⟨h1, ?_⟩
    rw [h2]
    exact qb
  · refine .inr ⟨_, _, h1, h2, h3, h4, ?_⟩
    rw [h5]
    exact qb
theorem ok_ne : OpOk K (rNe2 K) neD := by
  intro C M H st v1 d1 o1 v2 d2 o2 res Q ci r1 r2 e q
  unfold neD at e
  rw [Option.map_eq_some_iff] at e
  obtain ⟨b, e, rfl⟩ := e
  have qb := q.val ci (.bl (!b))
  rcases eqB_ok r1 r2 e with ⟨h1, h2⟩ | ⟨h1, h2, h3, h4, h5⟩
  · refine .inl ⟨h1, ?_⟩
    rw [h2]
    exact qb
  · refine .inr ⟨_, _, h1, h2, h3, h4, ?_⟩
    rw [h5]
    exact qb
def isN : D → Bool
  | .non => true
  | _ => false
theorem isN_ok (r : RV K C M H v d o) : decide (v = .non) = isN d := by
  cases r <;> simp [isN]
def isND (_ : Ms) (a b : D) : Option D := match b with
  | .non => some (.bl (isN a))
  | _ => none
def notND (_ : Ms) (a b : D) : Option D := match b with
  | .non => some (.bl (!isN a))
  | _ => none
theorem ok_isN : OpOk K (fun x y H Q => y = .non ∧ Q (.bl (decide (x = .non))) H) isND := by
  intro C M H st v1 d1 o1 v2 d2 o2 res Q ci r1 r2 e q
  unfold isND at e
  split at e
  · cases e
    cases r2
    refine ⟨rfl, ?_⟩
    rw [isN_ok r1]
    exact q.val ci (.bl _)
  · cases e
theorem ok_notN : OpOk K (fun x y H Q => y = .non ∧ Q (.bl (!decide (x = .non))) H) notND := by
  intro C M H st v1 d1 o1 v2 d2 o2 res Q ci r1 r2 e q
  unfold notND at e
  split at e
  · cases e
    cases r2
    refine ⟨rfl, ?_⟩
    rw [isN_ok r1]
    exact q.val ci (.bl _)
  · cases e
/-! ### x[i] -/
def ixD (st : Ms) (a b : D) : Option D := match b with
  | .int k => match a with
    | .tup l => if D.ofs l = true then atI l k else none
    | .cell c => st[c]?.bind fun l => atI l k
    | .scr ns => (atI ns k).map .int
    | a => a.li.bind fun l => atI l k
  | _ => none
def rIxLT (K : PySem.W.Frag) : R2 := fun x y H Q => rIxL K x y H Q ∨ rIxT K x y H Q
theorem or_ix : IxR X (rIxLT X.K) := ix_list.or ix_tup
theorem atI_rvs {xs : List V} {l : List D} {k : Int} (r : RVs K C M H xs l []) (e : atI l k = some d) : ∃ v, atI xs k = some v ∧ RV K C M H v d [] := by
  unfold atI at e ⊢
  rw [Option.bind_eq_some_iff] at e
  obtain ⟨j, e1, e2⟩ := e
  obtain ⟨v, e3, rv⟩ := r.get0 e2
  rw [r.len, e1]
  exact ⟨v, e3, rv⟩
theorem ok_ix : OpOk K (rIxLT K) ixD := by
  intro C M H st v1 d1 o1 v2 d2 o2 res Q ci r1 r2 e q
  unfold ixD at e
  split at e
  · cases r2
    split at e
    · split at e
      · rename_i hf
        obtain ⟨p, xs, rfl, t1, s1⟩ := ti_ok r1 hf
        obtain ⟨v, e3, rv⟩ := atI_rvs s1 e
        exact .inr ⟨p, xs, _, v, rfl, rfl, t1, e3, q.val ci rv⟩
      · cases e
    · rename_i c
      rw [Option.bind_eq_some_iff] at e
      obtain ⟨l, e1, e⟩ := e
      cases r1 with
      | @cell p _ hc =>
        obtain ⟨xs, hp, rs⟩ := ci.at_ c l p e1 hc
        obtain ⟨v, e3, rv⟩ := atI_rvs rs e
        exact .inl ⟨p, xs, _, v, rfl, rfl, SqL.of hp, e3, q.val ci (rv.mono (C' := C) (fun c p h => by simp at h) (fun _ _ _ e => e) (fun _ _ h _ => h) fun a ha => nomatch ha)⟩
    · rename_i ns
      rw [Option.map_eq_some_iff] at e
      obtain ⟨n, e, rfl⟩ := e
      cases r1 with
      | @scr p _ h =>
        have hs : SqL K H p (ns.map V.int) := by
          rcases h with h | h
          · exact .inl h.1
          · exact h H
        refine .inl ⟨p, ns.map V.int, _, .int n, rfl, rfl, hs, ?_, q.val ci (.int n)⟩
        unfold atI at e ⊢
        rw [Option.bind_eq_some_iff] at e
        obtain ⟨j, e1, e2⟩ := e
        rw [List.length_map, e1]
        simp [e2]
    · rw [Option.bind_eq_some_iff] at e
      obtain ⟨l, e1, e⟩ := e
      obtain ⟨p, xs, rfl, t1, s1⟩ := li_ok e1 r1
      obtain ⟨v, e3, rv⟩ := atI_rvs s1 e
      exact .inl ⟨p, xs, _, v, rfl, rfl, SqL.of t1, e3, q.val ci rv⟩
  · cases e
end
end Pv

/-! # PvK -/
set_option Elab.async false
set_option linter.all false
set_option maxHeartbeats 1000000
/-! built-ins -/
namespace Pv
open PySem PySem.Spec PyProof.Rows L2
section
variable {X : Cx} {K : PySem.W.Frag} {C : List Addr} {M : Addr → Prop} {H : Hp} {st : Ms} {v v1 v2 : V} {d d1 d2 : D} {o o1 o2 os : List Addr} {Q : VK} {vs : List V}
theorem rvs_one (r : RVs K C M H vs [d] os) : ∃ v, vs = [v] ∧ RV K C M H v d os := by
  cases r with
  | cons h r =>
    cases r
    rw [List.append_nil]
    exact ⟨_, rfl, h⟩
theorem rvs_two (r : RVs K C M H vs [d1, d2] os) : ∃ v w o p, vs = [v, w] ∧ RV K C M H v d1 o ∧ RV K C M H w d2 p := by
  cases r with
  | cons h r =>
    obtain ⟨w, rfl, r2⟩ := rvs_one r
    exact ⟨_, w, _, _, rfl, h, r2⟩
/-! ### isinstance -/
def D.ty : D → String
  | .non => "NoneType" | .bl _ => "bool" | .int _ => "int" | .str _ => "str" | .tup _ => "tuple" | .lst _ => "list" | .own _ => "list" | .cell _ => "list" | .scr _ => "list"
def isaB (T : String) (d : D) : Bool := d.ty == T || (d.ty == "bool" && T == "int")
def tys : List String := ["NoneType", "bool", "int", "str", "tuple", "list"]
theorem ty_mem (d : D) : d.ty ∈ tys := by cases d <;> simp [D.ty, tys]
theorem tyx (ci : CI K C M H st) (r : RV K C M H v d o) : TyX K H v (.type d.ty) := by
  cases r with
  | non => exact .base .non
  | bl b => exact .base (.bl b)
  | int i => exact .base (.int i)
  | str s => exact .base (.str s)
  | @tup p xs _ _ h r =>
    rcases h with h | h
    · exact .base (.tup h.1)
    · rcases h H with (h | ⟨o, h⟩) | ⟨o, its, n, h1, h2, _⟩
      · exact .base (.tup h)
      · exact .fTuple h
      · exact .kTuple h1 h2
  | lst h r => exact .base (.lst h.1)
  | own h r => exact .base (.lst h)
  | @cell p c h =>
    have hl : c < st.length := by rw [ci.len]; exact (List.getElem?_eq_some_iff.mp h).1
    obtain ⟨xs, e, _⟩ := ci.at_ c _ p (List.getElem?_eq_getElem hl) h
    exact .base (.lst e)
  | @scr p ns h =>
    rcases h with ⟨h | ⟨o, h⟩, _⟩ | h
    · exact .base (.lst h)
    · exact .base (.frz h)
    · rcases h H with (h | ⟨o, h⟩) | ⟨o, its, n, h1, h2, _⟩
      · exact .base (.lst h)
      · exact .base (.frz h)
      · exact .kList h1 h2
/-- isinstance(e, T), T a built-in class of these six -/
def fIsa (T : String) (f : ES) : ES := fun env st => (f env st).map fun x => (.bl (isaB T x.1), x.2)
theorem se_isa {e c : Expr} {f : ES} {p pos : Pos} (T : String) (hT : ∀ a ∈ tys, kitB a T = some (a == T || (a == "bool" && T == "int"))) (hg : Gl X "isinstance") (hm : X.mg "isinstance" = none) (ha : SP X e f) (hc : PE X c (tC (.ty T)))
    (he : starEach (e :: [c]) X.env = (false, eval e X.env) :: starEach [c] X.env := by rfl) (hec : starEach [c] X.env = (false, eval c X.env) :: starEach [] X.env := by rfl) (hpl : (backTo pos (starEach [c] X.env)).any (·.1) = false := by rfl) :
    SE X (.Call (.Name "isinstance" p) [e, c] [] pos) (fIsa T f) := pe_weak (pe_callB call_isi hg hm (by decide +kernel) (pa_cons ha (pa_cons hc pa_nil hec) he) (by decide) (by decide) he hpl) fun σ H Q ⟨C, O, M, env, st, d, env', st', fi, e, q⟩ => by
  unfold fIsa at e
  rw [Option.map_eq_some_iff] at e
  obtain ⟨⟨a, env1, st1⟩, e1, e⟩ := e
  cases e
  refine ⟨C, O, M, env, st, a, env', st', fi, e1, fun v1 H1 C1 O1 M1 o1 g1 fi1 r1 n1 => ?_⟩
  refine ⟨v1, .ty T, .type a.ty, .type T, isaB T a, rfl, ?_, tyx fi1.ci r1, kit_ty (hT _ (ty_mem a)), q _ H1 C1 O1 M1 [] g1 fi1 (.bl _) .nil fun a ha => nomatch ha⟩
  first | rfl | exact .ty T | trivial | constructor
/-! ### len, abs, int, max, min of two -/
def lenD (st : Ms) (ds : List D) : Option D := match ds with
  | [.str s] => if s.length ≤ BIG then some (.int s.length) else none
  | [.tup l] => some (.int l.length)
  | [.lst l] => some (.int l.length)
  | [.own l] => some (.int l.length)
  | [.scr l] => some (.int l.length)
  | [.cell c] => (st[c]?).map fun l => .int l.length
  | _ => none
theorem ok_len : ClOk K (fun xs H Q => ∃ x n, xs = [x] ∧ LenV K x H n ∧ Q (.int n) H) lenD := by
  intro C M H st vs ds os res Q ci r e q
  unfold lenD at e
  split at e
  · split at e
    · rename_i s hb
      cases e
      obtain ⟨v, rfl, r9⟩ := rvs_one r
      cases r9
      exact ⟨_, _, rfl, ⟨big_size hb, rfl⟩, q.val ci (.int _)⟩
    · cases e
  · cases e
    obtain ⟨v, rfl, r9⟩ := rvs_one r
    cases r9 with
    | @tup p xs _ _ h r8 =>
      refine ⟨_, _, rfl, .inr ⟨xs, ?_, r8.len.symm⟩, q.val ci (.int _)⟩
      rcases h with h | h
      · exact SqT.of h.1
      · exact h H
  · cases e
    obtain ⟨v, rfl, r9⟩ := rvs_one r
    cases r9 with
    | @lst p xs _ h r8 => exact ⟨_, _, rfl, .inl ⟨xs, SqL.of h.1, r8.len.symm⟩, q.val ci (.int _)⟩
  · cases e
    obtain ⟨v, rfl, r9⟩ := rvs_one r
    cases r9 with
    | @own p xs _ _ h r8 => exact ⟨_, _, rfl, .inl ⟨xs, SqL.of h, r8.len.symm⟩, q.val ci (.int _)⟩
  · rename_i ns
    cases e
    obtain ⟨v, rfl, r9⟩ := rvs_one r
    cases r9 with
    | @scr p _ h =>
      refine ⟨_, _, rfl, .inl ⟨ns.map V.int, ?_, (List.length_map ..).symm⟩, q.val ci (.int _)⟩
      rcases h with h | h
      · exact .inl h.1
      · exact h H
  · rename_i c
    rw [Option.map_eq_some_iff] at e
    obtain ⟨l, e1, rfl⟩ := e
    obtain ⟨v, rfl, r9⟩ := rvs_one r
    cases r9 with
    | @cell p _ hc =>
      obtain ⟨xs, hp, rs⟩ := ci.at_ c l p e1 hc
      exact ⟨_, _, rfl, .inl ⟨xs, SqL.of hp, rs.len.symm⟩, q.val ci (.int _)⟩
  · cases e
def absD (_ : Ms) (ds : List D) : Option D := match ds with
  | [.int i] => some (.int (if i < 0 then -i else i))
  | _ => none
theorem ok_abs : ClOk K (fun xs H Q => ∃ i, xs = [.int i] ∧ Q (.int (if i < 0 then -i else i)) H) absD := by
  intro C M H st vs ds os res Q ci r e q
  unfold absD at e
  split at e
  · cases e
    obtain ⟨v, rfl, r9⟩ := rvs_one r
    cases r9
    exact ⟨_, rfl, q.val ci (.int _)⟩
  · cases e
def max2D (_ : Ms) (ds : List D) : Option D := match ds with
  | [.int i, .int j] => some (.int (if j > i then j else i))
  | _ => none
theorem ok_max2 : ClOk K (fun xs H Q => ∃ i j, xs = [.int i, .int j] ∧ Q (.int (if j > i then j else i)) H) max2D := by
  intro C M H st vs ds os res Q ci r e q
  unfold max2D at e
  split at e
  · cases e
    obtain ⟨v, w, _, _, rfl, r1, r2⟩ := rvs_two r
    cases r1
    cases r2
    exact ⟨_, _, rfl, q.val ci (.int _)⟩
  · cases e
def min2D (_ : Ms) (ds : List D) : Option D := match ds with
  | [.int i, .int j] => some (.int (if j < i then j else i))
  | _ => none
theorem ok_min2 : ClOk K (fun xs H Q => ∃ i j, xs = [.int i, .int j] ∧ Q (.int (if j < i then j else i)) H) min2D := by
  intro C M H st vs ds os res Q ci r e q
  unfold min2D at e
  split at e
  · cases e
    obtain ⟨v, w, _, _, rfl, r1, r2⟩ := rvs_two r
    cases r1
    cases r2
    exact ⟨_, _, rfl, q.val ci (.int _)⟩
  · cases e
def int1D (_ : Ms) (ds : List D) : Option D := match ds with
  | [.int i] => some (.int i)
  | [.bl b] => some (.int (if b then 1 else 0))
  | _ => none
theorem ok_int1 : ClOk K (fun xs H Q => (∃ i, xs = [.int i] ∧ Q (.int i) H) ∨ ∃ k, xs = [.bl k] ∧ Q (.int (if k then 1 else 0)) H) int1D := by
  intro C M H st vs ds os res Q ci r e q
  unfold int1D at e
  split at e
  · cases e
    obtain ⟨v, rfl, r9⟩ := rvs_one r
    cases r9
    exact .inl ⟨_, rfl, q.val ci (.int _)⟩
  · cases e
    obtain ⟨v, rfl, r9⟩ := rvs_one r
    cases r9
    exact .inr ⟨_, rfl, q.val ci (.int _)⟩
  · cases e
/-! ### sum, all, any -/
def intsOf : List D → Option (List Int)
  | [] => some []
  | .int n :: l => (intsOf l).map (n :: ·)
  | _ => none
def blsOf : List D → Option (List Bool)
  | [] => some []
  | .bl n :: l => (blsOf l).map (n :: ·)
  | _ => none
theorem intsOf_ok : ∀ {l : List D} {ns : List Int}, intsOf l = some ns → l = ns.map D.int
  | [], ns, h => by
    cases h
    rfl
  | .int n :: l, ns, h => by
    simp only [intsOf, Option.map_eq_some_iff] at h
    obtain ⟨m, h, rfl⟩ := h
    rw [intsOf_ok h]
    rfl
theorem blsOf_ok : ∀ {l : List D} {ns : List Bool}, blsOf l = some ns → l = ns.map D.bl
  | [], ns, h => by
    cases h
    rfl
  | .bl n :: l, ns, h => by
    simp only [blsOf, Option.map_eq_some_iff] at h
    obtain ⟨m, h, rfl⟩ := h
    rw [blsOf_ok h]
    rfl
@[simp] theorem intsOf_map : ∀ ns : List Int, intsOf (ns.map D.int) = some ns
  | [] => rfl
  | n :: r => by simp [intsOf, intsOf_map r]
@[simp] theorem blsOf_map : ∀ ns : List Bool, blsOf (ns.map D.bl) = some ns
  | [] => rfl
  | n :: r => by simp [blsOf, blsOf_map r]
theorem rvs_ints : ∀ {xs : List V} {ns : List Int} {os : List Addr}, RVs K C M H xs (ns.map D.int) os → xs = ns.map V.int
  | [], [], _, _ => rfl
  | x :: xs, n :: ns, _, .cons h r => by
    cases h
    rw [rvs_ints r]
    rfl
theorem rvs_bls : ∀ {xs : List V} {ns : List Bool} {os : List Addr}, RVs K C M H xs (ns.map D.bl) os → xs = ns.map V.bl
  | [], [], _, _ => rfl
  | x :: xs, n :: ns, _, .cons h r => by
    cases h
    rw [rvs_bls r]
    rfl
/-- the items of a list, the script's too -/
def D.li2 : D → Option (List D)
  | .scr ns => some (ns.map .int)
  | d => d.li
theorem li2_ok {l : List D} (h : d.li2 = some l) (r : RV K C M H v d o) : ∃ p xs, v = .ref p ∧ SqL K H p xs ∧ RVs K C M H xs l [] := by
  unfold D.li2 at h
  split at h
  · rename_i ns
    cases h
    cases r with
    | @scr p _ h =>
      refine ⟨p, _, rfl, ?_, RVs.ints ns⟩
      rcases h with h | h
      · exact .inl h.1
      · exact h H
  · obtain ⟨p, xs, e, h1, r1⟩ := li_ok h r
    exact ⟨p, xs, e, SqL.of h1, r1⟩
def sumD (_ : Ms) (ds : List D) : Option D := match ds with
  | [d] => d.li2.bind fun l => (intsOf l).map fun ns => .int ns.sum
  | _ => none
theorem ok_sum : ClOk K (rSum K) sumD := by
  intro C M H st vs ds os res Q ci r e q
  unfold sumD at e
  split at e
  · rw [Option.bind_eq_some_iff] at e
    obtain ⟨l, e1, e⟩ := e
    rw [Option.map_eq_some_iff] at e
    obtain ⟨ns, e2, rfl⟩ := e
    obtain ⟨v, rfl, r9⟩ := rvs_one r
    obtain ⟨p, xs, rfl, h1, r1⟩ := li2_ok e1 r9
    rw [intsOf_ok e2] at r1
    rw [rvs_ints r1] at h1
    exact ⟨p, ns, rfl, h1, q.val ci (.int _)⟩
  · cases e
def allD (_ : Ms) (ds : List D) : Option D := match ds with
  | [d] => d.li.bind fun l => (blsOf l).map fun ns => .bl (ns.all id)
  | _ => none
def anyD (_ : Ms) (ds : List D) : Option D := match ds with
  | [d] => d.li.bind fun l => (blsOf l).map fun ns => .bl (ns.any id)
  | _ => none
theorem ok_all : ClOk K (rAll K) allD := by
  intro C M H st vs ds os res Q ci r e q
  unfold allD at e
  split at e
  · rw [Option.bind_eq_some_iff] at e
    obtain ⟨l, e1, e⟩ := e
    rw [Option.map_eq_some_iff] at e
    obtain ⟨ns, e2, rfl⟩ := e
    obtain ⟨v, rfl, r9⟩ := rvs_one r
    obtain ⟨p, xs, rfl, h1, r1⟩ := li_ok e1 r9
    rw [blsOf_ok e2] at r1
    rw [rvs_bls r1] at h1
    exact ⟨p, ns, rfl, SqL.of h1, q.val ci (.bl _)⟩
  · cases e
theorem ok_any : ClOk K (rAny K) anyD := by
  intro C M H st vs ds os res Q ci r e q
  unfold anyD at e
  split at e
  · rw [Option.bind_eq_some_iff] at e
    obtain ⟨l, e1, e⟩ := e
    rw [Option.map_eq_some_iff] at e
    obtain ⟨ns, e2, rfl⟩ := e
    obtain ⟨v, rfl, r9⟩ := rvs_one r
    obtain ⟨p, xs, rfl, h1, r1⟩ := li_ok e1 r9
    rw [blsOf_ok e2] at r1
    rw [rvs_bls r1] at h1
    exact ⟨p, ns, rfl, SqL.of h1, q.val ci (.bl _)⟩
  · cases e
/-! ### tuple(..), list(..) -/
def tupD (_ : Ms) (ds : List D) : Option D := match ds with
  | [.tup l] => if D.ofs l = true then some (.tup l) else none
  | [d] => d.li.map .tup
  | _ => none
theorem ok_tup : ClOk K (fun xs H Q => ∃ p ys, xs = [.ref p] ∧ ((SqL K H p ys ∧ ∀ l, H l = none → Q (.ref l) (upd H l (.tup ys))) ∨ (SqT K H p ys ∧ Q (.ref p) H))) tupD := by
  intro C M H st vs ds os res Q ci r e q
  unfold tupD at e
  split at e
  · split at e
    · rename_i hf
      cases e
      obtain ⟨v, rfl, r9⟩ := rvs_one r
      obtain ⟨p, xs, rfl, t1, s1⟩ := ti_ok r9 hf
      cases r9 with
      | @tup _ _ _ _ h r8 =>
        have := r8.of hf
        subst this
        exact ⟨p, xs, rfl, .inr ⟨t1, q.val ci (.tup h r8)⟩⟩
    · cases e
  · rw [Option.map_eq_some_iff] at e
    obtain ⟨l, e1, rfl⟩ := e
    obtain ⟨v, rfl, r9⟩ := rvs_one r
    obtain ⟨p, xs, rfl, h1, r1⟩ := li_ok e1 r9
    exact ⟨p, xs, rfl, .inl ⟨SqL.of h1, fun l hl => ans_tup ci r1 q hl⟩⟩
  · cases e
def lstD (_ : Ms) (ds : List D) : Option D := match ds with
  | [.tup l] => if D.ofs l = true then some (.own l) else none
  | [d] => d.li2.map .own
  | _ => none
theorem ok_lst : ClOk K (fun xs H Q => ∃ p ys, xs = [.ref p] ∧ (SqL K H p ys ∨ SqT K H p ys) ∧ ∀ l, H l = none → Q (.ref l) (upd H l (.lst ys))) lstD := by
  intro C M H st vs ds os res Q ci r e q
  unfold lstD at e
  split at e
  · split at e
    · rename_i hf
      cases e
      obtain ⟨v, rfl, r9⟩ := rvs_one r
      obtain ⟨p, xs, rfl, t1, s1⟩ := ti_ok r9 hf
      exact ⟨p, xs, rfl, .inr t1, fun l hl => ans_new ci s1 q hl⟩
    · cases e
  · rw [Option.map_eq_some_iff] at e
    obtain ⟨l, e1, rfl⟩ := e
    obtain ⟨v, rfl, r9⟩ := rvs_one r
    obtain ⟨p, xs, rfl, h1, r1⟩ := li2_ok e1 r9
    exact ⟨p, xs, rfl, .inl h1, fun l hl => ans_new ci r1 q hl⟩
  · cases e
end
end Pv

/-! # PvL -/
set_option Elab.async false
set_option linter.all false
set_option maxHeartbeats 1000000
/-! data compared, shown, cut; walks; unpacking -/
namespace Pv
open PySem PySem.Spec PyProof.Rows L2
section
variable {X : Cx} {K : PySem.W.Frag} {C : List Addr} {M : Addr → Prop} {H : Hp} {st : Ms} {v v1 v2 : V} {d d1 d2 : D} {o o1 o2 os : List Addr} {Q : VK} {vs : List V}
mutual
def ofPy : PyData → D
  | .none => .non | .bool b => .bl b | .int i => .int i | .str s => .str s
  | .list l => .lst (ofPys l) | .tuple l => .tup (ofPys l) | .dict _ => .non
def ofPys : List PyData → List D
  | [] => []
  | x :: l => ofPy x :: ofPys l
end
mutual
def D.pl : D → Bool
  | .own _ => false | .cell _ => false | .scr _ => false
  | .tup l => D.pls l
  | .lst l => D.pls l
  | .non => true | .bl _ => true | .int _ => true | .str _ => true
def D.pls : List D → Bool
  | [] => true
  | d :: l => d.pl && D.pls l
end
mutual
theorem ofPy_py : ∀ d : D, d.pl = true → ofPy d.py = d
  | .non, _ => by simp only [D.py, ofPy]
  | .bl b, _ => by simp only [D.py, ofPy]
  | .int i, _ => by simp only [D.py, ofPy]
  | .str s, _ => by simp only [D.py, ofPy]
  | .tup l, h => by simp only [D.py, ofPy]; rw [ofPys_pys l (by simpa only [D.pl] using h)]
  | .lst l, h => by simp only [D.py, ofPy]; rw [ofPys_pys l (by simpa only [D.pl] using h)]
  | .own l, h => by simp only [D.pl] at h; cases h
  | .cell c, h => by simp only [D.pl] at h; cases h
  | .scr c, h => by simp only [D.pl] at h; cases h
theorem ofPys_pys : ∀ l : List D, D.pls l = true → ofPys (D.pys l) = l
  | [], _ => by simp only [D.pys, ofPys]
  | d :: l, h => by
    simp only [D.pls, Bool.and_eq_true] at h
    simp only [D.pys, ofPys]
    rw [ofPy_py d h.1, ofPys_pys l h.2]
end
mutual
theorem pl_nc : ∀ d : D, d.pl = true → d.nc = true
  | .non, _ => rfl
  | .bl b, _ => rfl
  | .int i, _ => rfl
  | .str s, _ => rfl
  | .tup l, h => by simp only [D.nc]; exact pls_ncs l (by simpa only [D.pl] using h)
  | .lst l, h => by simp only [D.nc]; exact pls_ncs l (by simpa only [D.pl] using h)
  | .own l, h => by simp only [D.pl] at h; cases h
  | .cell c, h => by simp only [D.pl] at h; cases h
  | .scr c, h => by simp only [D.pl] at h; cases h
theorem pls_ncs : ∀ l : List D, D.pls l = true → D.ncs l = true
  | [], _ => rfl
  | d :: l, h => by
    simp only [D.pls, Bool.and_eq_true] at h
    simp only [D.ncs, Bool.and_eq_true]
    exact ⟨pl_nc d h.1, pls_ncs l h.2⟩
end
theorem pys_at : ∀ (l : List D) (i : Nat), (D.pys l)[i]? = (l[i]?).map D.py
  | [], i => by simp [D.pys]
  | d :: l, 0 => by simp [D.pys]
  | d :: l, i + 1 => by simpa [D.pys] using pys_at l i
theorem pys_len : ∀ l : List D, (D.pys l).length = l.length
  | [] => rfl
  | d :: l => by simp [D.pys, pys_len l]
/-! ### min, max of a list of data -/
def alikeB (xs : List PyData) : Bool := (xs.all fun x => xs.all fun y => PySem.W.alike x y) && xs.all fun x => match x with | .none => false | _ => true
theorem alikeB_ok {xs : List PyData} (h : alikeB xs = true) : PySem.W.AlikeAll xs := by
  unfold alikeB at h
  simp only [Bool.and_eq_true, List.all_eq_true] at h
  refine ⟨fun x hx y hy => h.1 x hx y hy, fun x hx e => ?_⟩
  have := h.2 x hx
  subst e
  cases this
def rExt (K : PySem.W.Frag) (m : PyData → List PyData → PyData) : List V → Hp → VK → Prop := fun xs H Q => ∃ p items d ds, xs = [.ref p] ∧ SqL K H p items ∧ DpAll K H items (d :: ds) ∧ PySem.W.AlikeAll (d :: ds) ∧ PyData.depthAll (d :: ds) ≤ 60 ∧
  ∀ (i : Nat) (v : V), items[i]? = some v → (d :: ds)[i]? = some (m d ds) → Q v H
theorem ext_end {pins : List (Addr × Obj)} {σ : L2.St} {s : Shared} {items : List V} {its : List Value} {ds : List PyData} {as bs : List Addr} {z : PyData} {i tk : Nat} {u : Value} {h' : Heap} (I : Inv X pins σ H s) (rvs : Vals items its) (rd : ReadsAll s.heap its ds as) (e1 : its.toArray[i]? = some u) (r1 : Reads h' u z bs)
    (hk : ∀ b o, s.heap.get? b = some o → h'.get? b = some o) (q : ∀ (i : Nat) (v : V), items[i]? = some v → ds[i]? = some z → Q v H) : EP X pins σ Q u { s with heap := h', toks := tk } := by
  have e1' : its[i]? = some u := by simpa using e1
  have hi : i < items.length := by rw [rvs.length]; exact (List.getElem?_eq_some_iff.mp e1').1
  obtain ⟨v, hv⟩ : ∃ v, items[i]? = some v := ⟨_, List.getElem?_eq_getElem hi⟩
  obtain ⟨u2, e2, rv2⟩ := rvs.get hv
  rw [e1'] at e2
  cases e2
  obtain ⟨bs2, r3, hl, _⟩ := PySem.W.readsAll_at rd i u e1'
  have e4 := (Reads.unique r1 _ _ (PySem.W.reads_keeps hk r3)).1
  refine ⟨v, H, I.kept hk, rv2, q i v hv ?_⟩
  rw [e4, List.getElem?_eq_getElem hl, List.getD_eq_getElem?_getD, List.getElem?_eq_getElem hl]
  rfl
theorem call_minD (hc : X.calm = true) (hu : X.A.units + 64 < cLine) : CallR X (.builtin "min") (rExt X.K PySem.W.minD) := by
  intro pins s σ H xs us Q I r h
  obtain ⟨p, items, d, ds, rfl, sq, dp, al, hd, q⟩ := h
  obtain ⟨u, rfl, rv⟩ := Vals.one r
  cases rv
  obtain ⟨its, rvs, pl, hz⟩ := I.list sq
  obtain ⟨as, rd⟩ := Dp.readsAll I (d :: ds) items its dp rvs
  exact PySem.W.min_list_data (I.ok.hd hc) pl.isList (by simpa using rd) al (by omega) fun i u h' tk bs e1 r1 hk => ext_end I rvs rd e1 r1 hk q
theorem call_maxD (hc : X.calm = true) (hu : X.A.units + 64 < cLine) : CallR X (.builtin "max") (rExt X.K PySem.W.maxD) := by
  intro pins s σ H xs us Q I r h
  obtain ⟨p, items, d, ds, rfl, sq, dp, al, hd, q⟩ := h
  obtain ⟨u, rfl, rv⟩ := Vals.one r
  cases rv
  obtain ⟨its, rvs, pl, hz⟩ := I.list sq
  obtain ⟨as, rd⟩ := Dp.readsAll I (d :: ds) items its dp rvs
  exact PySem.W.max_list_data (I.ok.hd hc) pl.isList (by simpa using rd) al (by omega) fun i u h' tk bs e1 r1 hk => ext_end I rvs rd e1 r1 hk q
def extD (m : PyData → List PyData → PyData) (_ : Ms) (ds : List D) : Option D := match ds with
  | [d] => d.li.bind fun l => match l with
    | [] => none
    | x :: xs => if D.pls (x :: xs) = true ∧ alikeB (D.pys (x :: xs)) = true ∧ PyData.depthAll (D.pys (x :: xs)) ≤ 60 then some (ofPy (m x.py (D.pys xs))) else none
  | _ => none
theorem ok_ext {m : PyData → List PyData → PyData} : ClOk K (rExt K m) (extD m) := by
  intro C M H st vs ds os res Q ci r e q
  unfold extD at e
  split at e
  · rw [Option.bind_eq_some_iff] at e
    obtain ⟨l, e1, e⟩ := e
    split at e
    · cases e
    · rename_i x xs
      split at e
      · rename_i hc
        cases e
        obtain ⟨v, rfl, r9⟩ := rvs_one r
        obtain ⟨p, items, rfl, h1, r1⟩ := li_ok e1 r9
        have dp : DpAll K H items (D.pys (x :: xs)) := r1.dp (pls_ncs _ hc.1)
        refine ⟨p, items, x.py, D.pys xs, rfl, SqL.of h1, by simpa only [D.pys] using dp, by have := alikeB_ok hc.2.1; simpa only [D.pys] using this, by simpa only [D.pys] using hc.2.2, fun i v e3 e4 => ?_⟩
        have e5 : (D.pys (x :: xs))[i]? = some (m x.py (D.pys xs)) := by simpa only [D.pys] using e4
        rw [pys_at, Option.map_eq_some_iff] at e5
        obtain ⟨di, e6, e7⟩ := e5
        obtain ⟨w, e8, rv⟩ := r1.get0 e6
        rw [e3] at e8
        cases e8
        have hpl : di.pl = true := by
          have : ∀ (l : List D), D.pls l = true → di ∈ l → di.pl = true := by
            intro l
            induction l with
            | nil => intro _ h; exact nomatch h
            | cons a l ih =>
              intro h hm
              simp only [D.pls, Bool.and_eq_true] at h
              rcases List.mem_cons.mp hm with z | z
              · rw [z]; exact h.1
              · exact ih h.2 z
          exact this _ hc.1 (List.mem_of_getElem? e6)
        rw [← e7, ofPy_py di hpl] at q
        exact q.val ci rv
      · cases e
  · cases e
/-! ### repr -/
theorem py_nodict : ∀ d : D, d.py.hasDict = false := by
  intro d
  refine D.rec (motive_1 := fun d => d.py.hasDict = false) (motive_2 := fun l => PyData.hasDictAll (D.pys l) = false) ?_ ?_ ?_ ?_ ?_ ?_ ?_ ?_ ?_ ?_ ?_ d
  · simp [D.py, PyData.hasDict]
  · intro b; simp [D.py, PyData.hasDict]
  · intro b; simp [D.py, PyData.hasDict]
  · intro b; simp [D.py, PyData.hasDict]
  · intro l h; simp [D.py, PyData.hasDict, h]
  · intro l h; simp [D.py, PyData.hasDict, h]
  · intro l h; simp [D.py, PyData.hasDict, h]
  · intro c; simp [D.py, PyData.hasDict]
  · intro l
    simp only [D.py, PyData.hasDict]
    induction l with
    | nil => rfl
    | cons a l ih => simp [PyData.hasDictAll, PyData.hasDict, ih]
  · simp [D.pys, PyData.hasDictAll]
  · intro a l h1 h2; simp [D.pys, PyData.hasDictAll, h1, h2]
def rRepr (K : PySem.W.Frag) : List V → Hp → VK → Prop := fun xs H Q => ∃ p d, xs = [.ref p] ∧ Dp K H (.ref p) d ∧ d.showable = true ∧ d.hasDict = false ∧ d.depth ≤ 60 ∧ d.shown.length ≤ sizeLine ∧ Q (.str d.shown) H
theorem call_repr (hg : X.A.guards = some []) (hu : X.A.units + 64 < cLine) : CallR X (.builtin "repr") (rRepr X.K) := by
  intro pins s σ H xs us Q I r h
  obtain ⟨p, d, rfl, dp, hs, hd, hdep, hlen, q⟩ := h
  obtain ⟨u, rfl, rv⟩ := Vals.one r
  cases rv
  obtain ⟨as, rd⟩ := Dp.reads I d _ _ dp rfl
  exact repr_of_reads' (h₀ := s.heap) rd hs (fun z => by rw [hd] at z; cases z) hg (by omega) (fun _ _ e => e) (fun h' u tk hk => ⟨.str d.shown, H, I.kept hk, ⟨_, rfl⟩, q⟩) hlen
def isRefD : D → Bool
  | .tup _ => true | .lst _ => true | .own _ => true | .scr _ => true
  | _ => false
def reprD (_ : Ms) (ds : List D) : Option D := match ds with
  | [d] => if isRefD d = true ∧ d.nc = true ∧ d.py.showable = true ∧ d.py.depth ≤ 60 ∧ d.py.shown.length ≤ BIG then some (.str d.py.shown) else none
  | _ => none
theorem ref_of (h : isRefD d = true) (r : RV K C M H v d o) : ∃ p, v = .ref p := by
  cases r <;> first | exact ⟨_, rfl⟩ | cases h
theorem ok_repr : ClOk K (rRepr K) reprD := by
  intro C M H st vs ds os res Q ci r e q
  unfold reprD at e
  split at e
  · split at e
    · rename_i hc
      cases e
      obtain ⟨v, rfl, r9⟩ := rvs_one r
      obtain ⟨p, rfl⟩ := ref_of hc.1 r9
      exact ⟨p, _, rfl, r9.dp hc.2.1, hc.2.2.1, py_nodict _, hc.2.2.2.1, big_size hc.2.2.2.2, q.val ci (.str _)⟩
    · cases e
  · cases e
/-! ### x[a:b] -/
def cutL {α : Type} (xs : List α) (lo hi : Option Int) : List α := (xs.drop (HT.sIx xs.length 0 lo)).take (HT.sIx xs.length xs.length hi - HT.sIx xs.length 0 lo)
theorem cut_rvs {xs : List V} {l : List D} {lo hi : Option Int} (r : RVs K C M H xs l []) : RVs K C M H (cutV xs lo hi) (cutL l lo hi) [] := by
  unfold cutV cutL
  rw [r.len]
  exact (r.drop0 _ rfl).take0 _ rfl
def slD (d : D) (lo hi : Option Int) : Option D := match d with
  | .tup l => if D.ofs l = true then some (.tup (cutL l lo hi)) else none
  | d => d.li2.map fun l => .own (cutL l lo hi)
def rSl2 (K : PySem.W.Frag) : V → Option Int → Option Int → Hp → VK → Prop := fun x lo hi H Q => rSlL K x lo hi H Q ∨ rSlA K x lo hi H Q
theorem or_sl : SlR X (rSl2 X.K) := sl_list.or sl_tupA
theorem sl_ok {lo hi : Option Int} {res : D} (ci : CI K C M H st) (r : RV K C M H v d o) (e : slD d lo hi = some res) (q : Ans K C M H res Q) : rSl2 K v lo hi H Q := by
  unfold slD at e
  split at e
  · split at e
    · rename_i l hf
      cases e
      obtain ⟨p, xs, rfl, t1, s1⟩ := ti_ok r hf
      refine .inr ⟨p, xs, rfl, t1, fun hw => ?_, fun _ p hp => ans_tup ci (cut_rvs s1) q hp⟩
      have el : cutL l lo hi = l := by
        unfold cutL
        rw [← s1.len, hw.1, hw.2, List.drop_zero, Nat.sub_zero, s1.len, List.take_length]
      rw [el] at q
      cases r with
      | @tup _ _ _ _ h r =>
        have := r.of hf
        subst this
        exact q.val ci (.tup h r)
    · cases e
  · rw [Option.map_eq_some_iff] at e
    obtain ⟨l, e1, rfl⟩ := e
    obtain ⟨p, xs, rfl, h1, r1⟩ := li2_ok e1 r
    exact .inl ⟨p, xs, rfl, h1, fun p hp => ans_new ci (cut_rvs r1) q hp⟩
abbrev OS := Env → Ms → Option (Option Int × Env × Ms)
def tO (K : PySem.W.Frag) (f : OS) : TO := fun σ H Q => ∃ C O M env st b env' st', FI K C O M H σ env st ∧ f env st = some (b, env', st') ∧
  ∀ H' C' O' M', Go False C O M H C' O' M' H' → FI K C' O' M' H' σ env' st' → Q b H'
def SO (X : Cx) (e : Option Expr) (f : OS) : Prop := PO X e (tO X.K f)
def oNo : OS := fun env st => some (none, env, st)
def oE (f : ES) : OS := fun env st => (f env st).bind fun x => match x.1 with
  | .int i => some (some i, x.2)
  | _ => none
theorem po_weak {e : Option Expr} {t t' : TO} (h : PO X e t) (i : ∀ σ H Q, t' σ H Q → t σ H Q) : PO X e t' := ⟨fun pins s σ H Q I q => h.run pins s σ H Q I (i σ H Q q)⟩
theorem so_no : SO X none oNo := po_weak po_none fun σ H Q ⟨C, O, M, env, st, d, env', st', fi, e, q⟩ => by
  cases e
  exact q H C O M .refl fi
theorem so_e {e : Expr} {f : ES} (h : SP X e f) : SO X (some e) (oE f) := po_weak (po_some h) fun σ H Q ⟨C, O, M, env, st, d, env', st', fi, e, q⟩ => by
  unfold oE at e
  rw [Option.bind_eq_some_iff] at e
  obtain ⟨⟨a, env1, st1⟩, e1, e⟩ := e
  dsimp only at e
  split at e
  · cases e
    refine ⟨C, O, M, env, st, _, env', st', fi, e1, fun v1 H1 C1 O1 M1 o1 g1 fi1 r1 n1 => ?_⟩
    cases r1
    exact ⟨_, rfl, q H1 C1 O1 M1 g1 fi1⟩
  · cases e
def fSl (f : ES) (lo hi : OS) : ES := fun env st => (f env st).bind fun x => (lo x.2.1 x.2.2).bind fun y => (hi y.2.1 y.2.2).bind fun z => (slD x.1 y.1 z.1).map fun r => (r, z.2)
theorem se_sl {e : Expr} {lo hi : Option Expr} {f : ES} {fl fh : OS} {pos p2 : Pos} (he : SP X e f) (hl : SO X lo fl) (hh : SO X hi fh) : SE X (.Subscript e (.Slice lo hi none p2) pos) (fSl f fl fh) := pe_weak (pe_slice or_sl he hl hh) fun σ H Q ⟨C, O, M, env, st, d, env', st', fi, e, q⟩ => by
  unfold fSl at e
  rw [Option.bind_eq_some_iff] at e
  obtain ⟨⟨a, env1, st1⟩, e1, e⟩ := e
  rw [Option.bind_eq_some_iff] at e
  obtain ⟨⟨b, env2, st2⟩, e2, e⟩ := e
  rw [Option.bind_eq_some_iff] at e
  obtain ⟨⟨c, env3, st3⟩, e3, e⟩ := e
  rw [Option.map_eq_some_iff] at e
  obtain ⟨r, e4, e⟩ := e
  cases e
  refine ⟨C, O, M, env, st, a, env1, st1, fi, e1, fun v1 H1 C1 O1 M1 o1 g1 fi1 r1 n1 => ⟨C1, O1, M1, env1, st1, b, env2, st2, fi1, e2, fun H2 C2 O2 M2 g2 fi2 => ⟨C2, O2, M2, env2, st2, c, env', st', fi2, e3, fun H3 C3 O3 M3 g3 fi3 => ?_⟩⟩⟩
  have g23 := g2.trans fi1.ci.tr g3
  exact sl_ok fi3.ci (g23.rv fi1.ci.mC r1 n1) e4 (ans_of fi (g1.trans fi.ci.tr g23) fi3 q)
end
end Pv

/-! # PvM -/
set_option Elab.async false
set_option linter.all false
set_option maxHeartbeats 1000000
/-! walks: range, zip, enumerate; unpacking; keywords -/
namespace Pv
open PySem PySem.Spec PyProof.Rows L2
section
variable {X : Cx} {K : PySem.W.Frag} {C O : List Addr} {M : Addr → Prop} {H : Hp} {st : Ms} {v v1 v2 : V} {d d1 d2 : D} {o o1 o2 os : List Addr} {Q : VK} {vs : List V} {σ : L2.St} {env env' : Env} {tg e a b c : Expr} {es : List Expr} {fs : AS} {f f1 f2 : ES} {p pos tpos : Pos}
def okR (n : Int) : Bool := decide (-1000000 ≤ n ∧ n ≤ 1000000)
theorem okR_le {n : Int} (h : okR n = true) : -1000000 ≤ n ∧ n ≤ 1000000 := of_decide_eq_true h
def wRng1 (fs : AS) : WS := fun env st => (fs env st).bind fun x => match x.1 with
  | [.int n] => if okR n = true then some (steps 0 1 n.toNat, x.2) else none
  | _ => none
def wRng2 (fs : AS) : WS := fun env st => (fs env st).bind fun x => match x.1 with
  | [.int m, .int n] => if okR m = true ∧ okR n = true then some (steps m 1 (n - m).toNat, x.2) else none
  | _ => none
def wRng3 (fs : AS) : WS := fun env st => (fs env st).bind fun x => match x.1 with
  | [.int m, .int n, .int k] => if okR m = true ∧ okR n = true ∧ k = -1 then some (steps m (-1) (m - n).toNat, x.2) else none
  | _ => none
theorem si_rng1 (hg : Gl X "range") (hm : X.mg "range" = none) (ha : SPs X [a] fs) (hs : starEach [a] X.env = [(false, eval a X.env)] := by rfl) : SI X tg (.Call (.Name "range" p) [a] [] pos) (wRng1 fs) := pi_weak (pi_range1 hg hm ha hs) fun σ H R ⟨C, O, M, env, st, ds, env', st', fi, e, q⟩ => by
  unfold wRng1 at e
  rw [Option.bind_eq_some_iff] at e
  obtain ⟨⟨a, env1, st1⟩, e1, e⟩ := e
  dsimp only at e
  split at e
  · split at e
    · rename_i n hc
      cases e
      have hb := okR_le hc
      refine ⟨C, O, M, env, st, _, env', st', fi, e1, fun vs H1 C1 O1 M1 o1 g1 fi1 r1 n1 => ?_⟩
      obtain ⟨v, rfl, r9⟩ := rvs_one r1
      cases r9
      exact ⟨_, rfl, by omega, by omega, q _ H1 C1 O1 M1 g1 fi1 itr_ok⟩
    · cases e
  · cases e
theorem si_rng2 (hg : Gl X "range") (hm : X.mg "range" = none) (ha : SPs X [a, b] fs) (hs : starEach [a, b] X.env = [(false, eval a X.env), (false, eval b X.env)] := by rfl) (hs2 : starEach [b] X.env = [(false, eval b X.env)] := by rfl) : SI X tg (.Call (.Name "range" p) [a, b] [] pos) (wRng2 fs) := pi_weak (pi_range2 hg hm ha hs hs2) fun σ H R ⟨C, O, M, env, st, ds, env', st', fi, e, q⟩ => by
  unfold wRng2 at e
  rw [Option.bind_eq_some_iff] at e
  obtain ⟨⟨a, env1, st1⟩, e1, e⟩ := e
  dsimp only at e
  split at e
  · split at e
    · rename_i m n hc
      cases e
      have hb := okR_le hc.1
      have hb2 := okR_le hc.2
      refine ⟨C, O, M, env, st, _, env', st', fi, e1, fun vs H1 C1 O1 M1 o1 g1 fi1 r1 n1 => ?_⟩
      obtain ⟨v, w, _, _, rfl, r9, r8⟩ := rvs_two r1
      cases r9
      cases r8
      exact ⟨_, _, rfl, by omega, q _ H1 C1 O1 M1 g1 fi1 itr_ok⟩
    · cases e
  · cases e
theorem rvs_three {d3 : D} (r : RVs K C M H vs [d1, d2, d3] os) : ∃ u v w o p q, vs = [u, v, w] ∧ RV K C M H u d1 o ∧ RV K C M H v d2 p ∧ RV K C M H w d3 q := by
  cases r with
  | cons h r =>
    obtain ⟨v, w, _, _, rfl, r2, r3⟩ := rvs_two r
    exact ⟨_, v, w, _, _, _, rfl, h, r2, r3⟩
theorem si_rng3 (hg : Gl X "range") (hm : X.mg "range" = none) (ha : SPs X [a, b, c] fs) (hs : starEach [a, b, c] X.env = (false, eval a X.env) :: starEach [b, c] X.env := by rfl) (hs2 : (backTo pos (starEach [b, c] X.env)).any (·.1) = false := by rfl) :
    SI X tg (.Call (.Name "range" p) [a, b, c] [] pos) (wRng3 fs) := pi_weak (pi_range3 hg hm ha hs hs2) fun σ H R ⟨C, O, M, env, st, ds, env', st', fi, e, q⟩ => by
  unfold wRng3 at e
  rw [Option.bind_eq_some_iff] at e
  obtain ⟨⟨a, env1, st1⟩, e1, e⟩ := e
  dsimp only at e
  split at e
  · split at e
    · rename_i m n k hc
      cases e
      have hb := okR_le hc.1
      have hb2 := okR_le hc.2.1
      have hk := hc.2.2
      subst hk
      refine ⟨C, O, M, env, st, _, env', st', fi, e1, fun vs H1 C1 O1 M1 o1 g1 fi1 r1 n1 => ?_⟩
      obtain ⟨u, v, w, _, _, _, rfl, r9, r8, r7⟩ := rvs_three r1
      cases r9
      cases r8
      cases r7
      exact ⟨_, _, _, _, rfl, RgC.neg (by omega) (by omega) (by omega) (by omega), q _ H1 C1 O1 M1 g1 fi1 itc_ok⟩
    · cases e
  · cases e
/-! ### zip, enumerate -/
def zipD (l m : List D) : List D := List.zipWith (fun x y => D.tup [x, y]) l m
def wZip (fs : AS) : WS := fun env st => (fs env st).bind fun x => match x.1 with
  | [.tup l, .tup m] => some (zipD l m, x.2)
  | [.lst l, .lst m] => some (zipD l m, x.2)
  | _ => none
theorem pair_ok {C1 : List Addr} {M1 : Addr → Prop} {H1 : Hp} {T : Addr} {x y : V} (t : ∀ a, M1 a → ∃ o, H1 a = some o) (hT : H1 T = none) (r1 : RV K C1 M1 H1 x d1 []) (r2 : RV K C1 M1 H1 y d2 []) : Gr M1 H1 M1 (upd H1 T (.tup [x, y])) ∧ RV K C1 M1 (upd H1 T (.tup [x, y])) (.ref T) (.tup [d1, d2]) [] := by
  have gr : Gr M1 H1 M1 (upd H1 T (.tup [x, y])) := .tup t hT
  exact ⟨gr, .tup (.inl ⟨upd_same, fun z => by
    obtain ⟨o, w⟩ := t T z
    rw [hT] at w; cases w⟩) (gr.rvs (.cons0 r1 (.cons0 r2 .nil)))⟩
theorem zip_at {l m : List D} {i : Nat} {z : D} (h : (zipD l m)[i]? = some z) : ∃ x y, l[i]? = some x ∧ m[i]? = some y ∧ z = .tup [x, y] := by
  unfold zipD at h
  rw [List.getElem?_zipWith] at h
  cases h1 : l[i]? with
  | none => rw [h1] at h; simp at h
  | some x =>
    cases h2 : m[i]? with
    | none => rw [h1, h2] at h; simp at h
    | some y =>
      rw [h1, h2] at h
      simp only [Option.some.injEq] at h
      exact ⟨x, y, rfl, rfl, h.symm⟩
theorem itz_ok {a b : Addr} {xs ys : List V} {l m : List D} (hC : ∀ p ∈ C, M p) (hO : ∀ p ∈ O, M p) (h : ∀ C1 O1 M1 H1, Go True C O M H C1 O1 M1 H1 → SqL K H1 a xs ∧ SqL K H1 b ys) (r : RVs K C M H xs l []) (r' : RVs K C M H ys m []) : ItOk K (Itz K a b) C O M (zipD l m) H := fun C1 O1 M1 H1 g t i => by
  have s1 : RVs K C1 M1 H1 xs l [] := g.rvs0 hC hO r
  have s2 : RVs K C1 M1 H1 ys m [] := g.rvs0 hC hO r'
  obtain ⟨q1, q2⟩ := h C1 O1 M1 H1 g
  refine ⟨fun hl => ⟨xs, ys, q1, q2, ?_⟩, fun z e => ?_⟩
  · unfold zipD at hl
    rw [List.length_zipWith] at hl
    rw [s1.len, s2.len]
    omega
  · obtain ⟨x, y, e1, e2, rfl⟩ := zip_at e
    obtain ⟨v, e3, rv⟩ := s1.get0 e1
    obtain ⟨w, e4, rw⟩ := s2.get0 e2
    refine ⟨⟨xs, ys, v, w, q1, q2, e3, e4⟩, fun u H2 hy => ?_⟩
    obtain ⟨T, x', y', rfl, hT, rfl, h1, h2⟩ := hy
    have z1 := (h1 xs q1).symm.trans e3
    have z2 := (h2 ys q2).symm.trans e4
    cases z1
    cases z2
    exact pair_ok t hT rv rw
theorem itzT_ok {a b : Addr} {xs ys : List V} {l m : List D} (hC : ∀ p ∈ C, M p) (hO : ∀ p ∈ O, M p) (h : ∀ C1 O1 M1 H1, Go True C O M H C1 O1 M1 H1 → SqT K H1 a xs ∧ SqT K H1 b ys) (r : RVs K C M H xs l []) (r' : RVs K C M H ys m []) : ItOk K (RZ.ItzT K a b) C O M (zipD l m) H := fun C1 O1 M1 H1 g t i => by
  have s1 : RVs K C1 M1 H1 xs l [] := g.rvs0 hC hO r
  have s2 : RVs K C1 M1 H1 ys m [] := g.rvs0 hC hO r'
  obtain ⟨q1, q2⟩ := h C1 O1 M1 H1 g
  refine ⟨fun hl => ⟨xs, ys, q1, q2, ?_⟩, fun z e => ?_⟩
  · unfold zipD at hl
    rw [List.length_zipWith] at hl
    rw [s1.len, s2.len]
    omega
  · obtain ⟨x, y, e1, e2, rfl⟩ := zip_at e
    obtain ⟨v, e3, rv⟩ := s1.get0 e1
    obtain ⟨w, e4, rw⟩ := s2.get0 e2
    refine ⟨⟨xs, ys, v, w, q1, q2, e3, e4⟩, fun u H2 hy => ?_⟩
    obtain ⟨T, x', y', rfl, hT, rfl, h1, h2⟩ := hy
    have z1 := (h1 xs q1).symm.trans e3
    have z2 := (h2 ys q2).symm.trans e4
    cases z1
    cases z2
    exact pair_ok t hT rv rw
theorem tr_keep {C1 O1 : List Addr} {M1 : Addr → Prop} {H1 : Hp} {a : Addr} {xs : List V} (g : Go True C O M H C1 O1 M1 H1) (hC : ∀ p ∈ C, M p) (hO : ∀ p ∈ O, M p) (h : TR K M H a xs) : SqT K H1 a xs := by
  rcases h with ⟨h, n⟩ | h
  · exact SqT.of (go_lr g hC hO h n)
  · exact h H1
theorem rvs_two0 (r : RVs K C M H vs [d1, d2] []) : ∃ v w, vs = [v, w] ∧ RV K C M H v d1 [] ∧ RV K C M H w d2 [] := by
  generalize hz : ([] : List Addr) = z at r
  cases r with
  | cons h r =>
    obtain ⟨e1, e2⟩ := List.append_eq_nil_iff.mp hz.symm
    subst e1 e2
    generalize hy : ([] : List Addr) = y at r
    cases r with
    | cons h2 r =>
      obtain ⟨e1, e2⟩ := List.append_eq_nil_iff.mp hy.symm
      subst e1 e2
      cases r
      exact ⟨_, _, rfl, h, h2⟩
theorem rvs_one0 (r : RVs K C M H vs [d1] []) : ∃ v, vs = [v] ∧ RV K C M H v d1 [] := by
  generalize hz : ([] : List Addr) = z at r
  cases r with
  | cons h r =>
    obtain ⟨e1, e2⟩ := List.append_eq_nil_iff.mp hz.symm
    subst e1 e2
    cases r
    exact ⟨_, rfl, h⟩
theorem si_zip {elts : List Expr} {kk : Nat} (hg : Gl X "zip") (hm : X.mg "zip" = none) (ha : SZs X [a, b] fs) (hs : starEach [a, b] X.env = (false, eval a X.env) :: starEach [b] X.env := by rfl) (hpl : (backTo pos (starEach [b] X.env)).any (·.1) = false := by rfl) :
    SI X (.Tuple elts kk tpos) (.Call (.Name "zip" p) [a, b] [] pos) (wZip fs) := pi_weak (RZ.pi_zipA hg hm ha hs hpl) fun σ H R ⟨C, O, M, env, st, ds, env', st', fi, e, q⟩ => by
  unfold wZip at e
  rw [Option.bind_eq_some_iff] at e
  obtain ⟨⟨a, env1, st1⟩, e1, e⟩ := e
  dsimp only at e
  split at e
  · cases e
    refine ⟨C, O, M, env, st, _, env', st', fi, e1, fun vs H1 C1 O1 M1 g1 fi1 r1 => ?_⟩
    obtain ⟨v, w, rfl, r9, r8⟩ := rvs_two0 r1
    generalize hz : ([] : List Addr) = z at r9
    cases r9 with
    | @tup p xs _ _ h r =>
      subst hz
      generalize hz : ([] : List Addr) = z at r8
      cases r8 with
      | @tup p2 ys _ _ h2 r2 =>
        subst hz
        exact ⟨p, p2, xs, ys, rfl, .inr ⟨tr_keep .refl fi1.ci.mC fi1.mO h, tr_keep .refl fi1.ci.mC fi1.mO h2, q _ H1 C1 O1 M1 g1 fi1 (itzT_ok fi1.ci.mC fi1.mO (fun C2 O2 M2 H2 g2 => ⟨tr_keep g2 fi1.ci.mC fi1.mO h, tr_keep g2 fi1.ci.mC fi1.mO h2⟩) r r2)⟩⟩
  · cases e
    refine ⟨C, O, M, env, st, _, env', st', fi, e1, fun vs H1 C1 O1 M1 g1 fi1 r1 => ?_⟩
    obtain ⟨v, w, rfl, r9, r8⟩ := rvs_two0 r1
    cases r9 with
    | @lst p xs _ h r =>
      cases r8 with
      | @lst p2 ys _ h2 r2 =>
        exact ⟨p, p2, xs, ys, rfl, .inl ⟨SqL.of h.1, SqL.of h2.1, q _ H1 C1 O1 M1 g1 fi1 (itz_ok fi1.ci.mC fi1.mO (fun C2 O2 M2 H2 g2 => ⟨SqL.of (go_lr g2 fi1.ci.mC fi1.mO h.1 h.2), SqL.of (go_lr g2 fi1.ci.mC fi1.mO h2.1 h2.2)⟩) r r2)⟩⟩
  · cases e
/-! ### enumerate -/
def enumD : Nat → List D → List D
  | _, [] => []
  | i, d :: l => .tup [.int (i : Int), d] :: enumD (i + 1) l
theorem enum_len : ∀ (l : List D) (i : Nat), (enumD i l).length = l.length
  | [], _ => rfl
  | d :: l, i => by simp [enumD, enum_len l (i + 1)]
theorem enum_at : ∀ (l : List D) (k i : Nat) (z : D), (enumD k l)[i]? = some z → ∃ x, l[i]? = some x ∧ z = .tup [.int ((k + i : Nat) : Int), x]
  | [], k, i, z, h => by simp [enumD] at h
  | d :: l, k, 0, z, h => by
    simp only [enumD, List.getElem?_cons_zero, Option.some.injEq] at h
    exact ⟨d, rfl, h.symm⟩
  | d :: l, k, i + 1, z, h => by
    simp only [enumD, List.getElem?_cons_succ] at h
    obtain ⟨x, e1, e2⟩ := enum_at l (k + 1) i z h
    refine ⟨x, by simpa using e1, ?_⟩
    rw [e2, show k + 1 + i = k + (i + 1) by omega]
def IteT (K : PySem.W.Frag) (a : Addr) : It :=
  ⟨fun i H => ∃ (xs : List V) (x : V), SqT K H a xs ∧ xs[i]? = some x, fun i H v H' => ∃ T x, v = .ref T ∧ H T = none ∧ H' = upd H T (.tup [.int (i : Nat), x]) ∧ ∀ xs, SqT K H a xs → xs[i]? = some x, fun i H => ∃ xs : List V, SqT K H a xs ∧ xs.length ≤ i⟩
theorem ite_ok {a : Addr} {xs : List V} {l : List D} (hC : ∀ p ∈ C, M p) (hO : ∀ p ∈ O, M p) (h : ∀ C1 O1 M1 H1, Go True C O M H C1 O1 M1 H1 → SqL K H1 a xs) (r : RVs K C M H xs l []) : ItOk K (Ite K a) C O M (enumD 0 l) H := fun C1 O1 M1 H1 g t i => by
  have s1 : RVs K C1 M1 H1 xs l [] := g.rvs0 hC hO r
  have q1 := h C1 O1 M1 H1 g
  refine ⟨fun hl => ⟨xs, q1, ?_⟩, fun z e => ?_⟩
  · rw [enum_len] at hl
    rw [s1.len]
    exact hl
  · obtain ⟨x, e1, rfl⟩ := enum_at l 0 i z e
    obtain ⟨v, e3, rv⟩ := s1.get0 e1
    refine ⟨⟨xs, v, q1, e3⟩, fun u H2 hy => ?_⟩
    obtain ⟨T, x', rfl, hT, rfl, h1⟩ := hy
    have z1 := (h1 xs q1).symm.trans e3
    cases z1
    rw [Nat.zero_add]
    exact pair_ok t hT (.int _) rv
theorem iteT_ok {a : Addr} {xs : List V} {l : List D} (hC : ∀ p ∈ C, M p) (hO : ∀ p ∈ O, M p) (h : ∀ C1 O1 M1 H1, Go True C O M H C1 O1 M1 H1 → SqT K H1 a xs) (r : RVs K C M H xs l []) : ItOk K (IteT K a) C O M (enumD 0 l) H := fun C1 O1 M1 H1 g t i => by
  have s1 : RVs K C1 M1 H1 xs l [] := g.rvs0 hC hO r
  have q1 := h C1 O1 M1 H1 g
  refine ⟨fun hl => ⟨xs, q1, ?_⟩, fun z e => ?_⟩
  · rw [enum_len] at hl
    rw [s1.len]
    exact hl
  · obtain ⟨x, e1, rfl⟩ := enum_at l 0 i z e
    obtain ⟨v, e3, rv⟩ := s1.get0 e1
    refine ⟨⟨xs, v, q1, e3⟩, fun u H2 hy => ?_⟩
    obtain ⟨T, x', rfl, hT, rfl, h1⟩ := hy
    have z1 := (h1 xs q1).symm.trans e3
    cases z1
    rw [Nat.zero_add]
    exact pair_ok t hT (.int _) rv
theorem draws_tup {prog : Program} {w : World} {A : Around} (hh : A.handled = none) (it l : Addr) (hne : l ≠ it) (items : Array Value) :
    Draws prog w A it [it, l] items.size (fun i v => items[i]? = some v) (fun i h => h.IsTupleIter it l i ∧ h.IsTuple l items) where
  live := fun _ _ st => let ⟨o, ho, _⟩ := st.1; ⟨o, ho⟩
  frame := fun _ _ _ st hk => ⟨let ⟨o, ho, r⟩ := st.1; ⟨o, hk it (by simp) o ho, r⟩, let ⟨o, ho, r⟩ := st.2; ⟨o, hk l (by simp) o ho, r⟩⟩
  item := fun i s Q E hi st hQ => by
    refine wpAny_nextOf_tuple_item st.1 st.2 (x := items[i]) (by simp [hi]) fun h' hit' hs' => ?_
    exact hQ _ h' s.toks (by simp [hi]) ⟨hit', st.2.extBut hs'.extBut hne⟩ hs'
  done := fun s Q E st hE => wpAny_nextOf_tuple_end hh st.1 st.2 (by simp) hE
theorem next_enumT_end {prog : Program} {w : World} {A : Around} {E : Value → Shared → Prop} {s : Shared} {e it l : Addr} {i : Nat} {items : Array Value} {old : Value} {Q : Option Value → Shared → Prop} (hh : A.handled = none)
    (he : IsEnum s.heap e it i old) (hit : s.heap.IsTupleIter it l i) (hl : s.heap.IsTuple l items) (hx : items[i]? = none) (hQ : ∀ h2, Heap.ExtBut it s.heap h2 → Q none { s with heap := h2 }) : wpAny (model prog w) A (pyNext (.ref e)) Q E s := by
  have tE : s.TypeIs (.ref e) "enumerate" := ⟨_, he, rfl⟩
  unfold pyNext
  refine wpAny_bind (wpAny_attempt (wpAny_callSpecial?_slot (name := Str.ofString "__next__") tE F.slot_enumerate_next (wpAny_call_entry F.slot_enumerate_next tE F.entry_enumerate_next ?_ (F.args_enumerate_next_1 _))))
  refine (show wpAny _ _ (field (.ref e) 2 >>= _) _ _ _ from wpAny_bind (wpAny_field he rfl (x := .ref it) rfl (wpAny_bind (wpAny_nextOf_tuple_end hh hit hl hx fun h2 x e2 hx2 => ?_))))
  obtain ⟨o, ho, hc⟩ := hx2
  exact wpAny_bind (wpAny_isInstance (T := "StopIteration") (b := true) ⟨o, ho, hc⟩ isSubtype_stop (wpAny_pure (hQ _ e2)))
theorem turn_enumT {P : Program} {w : World} {elts : List Expr} {kk : Nat} (a e it : Addr) :
    Turn P w K (.Tuple elts kk tpos) (IteT K a) [e, it] e (fun i h => (∃ old, IsEnum h e it ((i : Nat) : Int) old) ∧ h.IsTupleIter it a i ∧ e ≠ it ∧ a ≠ it ∧ e ≠ a) where
  mem := by simp
  obj := fun i h st b hb => by
    obtain ⟨⟨old, he⟩, ⟨o, ho, hc, hd⟩, _⟩ := st
    rcases (show b = e ∨ b = it by simpa using hb) with z | z
    · rw [z]
      exact ⟨_, he, fun v q => nomatch q⟩
    · rw [z]
      exact ⟨o, ho, fun v q => by rw [hd] at q; cases q⟩
  keep := fun i h h' st k => let ⟨⟨old, he⟩, ⟨o, ho, r⟩, hne⟩ := st; ⟨⟨old, k e (by simp) _ he⟩, ⟨o, k it (by simp) _ ho, r⟩, hne⟩
  item := by
    intro X hP hw hK hc i pins s σ H E I hf st hg
    subst hP hw hK
    obtain ⟨⟨old, he⟩, hit, hne, hai, hea⟩ := st
    obtain ⟨xs, x, hq, hx⟩ := hg
    obtain ⟨its, rv, p, hz⟩ := I.tuple hq
    obtain ⟨u, hu, ru⟩ := rv.get hx
    have hel : e < s.heap.objs.size := Heap.lt_size he
    have hil : it < s.heap.objs.size := by obtain ⟨_, q, _⟩ := hit; exact Heap.lt_size q
    have hT : s.heap.IsTuple a its.toArray := by obtain ⟨o, ho, hc', n, hd⟩ := p; exact ⟨o, ho, hc', n, hd⟩
    have hlt : i < its.toArray.size := by
      rw [List.size_toArray]
      exact (List.getElem?_eq_some_iff.mp hu).1
    refine wpAny_pyNext_enum_itemD (draws_tup (A := X.A.in1) (I.ok.hd hc) it a hai its.toArray) he ⟨hit, hT⟩ hlt hne (by simp [hne, hea]) fun y h' tk hy ho st' hT1 hsz hk => ?_
    have ey : y = u := by
      have : its[i]? = some y := by simpa using hy
      rw [hu] at this
      exact (Option.some.inj this).symm
    subst ey
    refine ⟨_, rfl, wpAny_letOwnedTupleGo_enum (s := { s with heap := h', toks := tk + 1 }) ho fun h'' he' sb => ?_⟩
    have hT2 : h''.get? s.heap.objs.size = some { cls := .type "tuple", data := .seq #[.int i tk, y] } := (sb.2 _ (Nat.ne_of_gt hel)).trans hT1
    have new : ObjOk X.prog X.w (upd H s.heap.objs.size (.tup [.int (i : Nat), x])) h'' s.heap.objs.size (.tup [.int (i : Nat), x]) :=
      ⟨by show 2 ≤ sizeLine; decide, [.int i tk, y], .cons ⟨_, rfl⟩ (.cons ru .nil), ⟨_, hT2, rfl, _, rfl⟩⟩
    have I1 : Inv X pins σ (upd H s.heap.objs.size (.tup [.int (i : Nat), x])) { s with heap := h'', toks := tk + 1 } :=
      I.turnedNew (ch := [e, it]) (fun b ob hb q => (sb.2 b (fun z => hb (by simp [z]))).trans (hk b ob (fun z => hb (by simp [z])) (fun z => hb (by simp [z])) q)) hf (Nat.le_refl _) new
    have hit2 : h''.IsTupleIter it a (i + 1) := by obtain ⟨o, ho', r⟩ := st'.1; exact ⟨o, (sb.2 it (Ne.symm hne)).trans ho', r⟩
    refine ⟨.ref s.heap.objs.size, _, I1, rfl, ⟨_, x, rfl, I.hok.fresh (Nat.le_refl _), rfl, fun ys hy => by rw [I.tuple_inj hy hq]; exact hx⟩, ⟨⟨y, ?_⟩, hit2, hne, hai, hea⟩, fun b hb => ?_⟩
    · rw [show ((i + 1 : Nat) : Int) = (i : Int) + 1 by omega]
      exact he'
    · have hb' : b < s.heap.objs.size := by
        rcases (show b = e ∨ b = it by simpa using hb) with z | z
        · rw [z]; exact hel
        · rw [z]; exact hil
      rw [upd_ne (Nat.ne_of_lt hb')]
      exact (hf b hb).1
  done := by
    intro X hP hw hK hc i pins s σ H E I hf st hg
    subst hP hw hK
    obtain ⟨⟨old, he⟩, hit, hne, hai, hea⟩ := st
    obtain ⟨xs, hq, hx⟩ := hg
    obtain ⟨its, rv, p, hz⟩ := I.tuple hq
    obtain ⟨f0, f1, f2, f3, f4, f5⟩ := hf it (by simp)
    have hT : s.heap.IsTuple a its.toArray := by obtain ⟨o, ho, hc', n, hd⟩ := p; exact ⟨o, ho, hc', n, hd⟩
    have hl := rv.length
    exact next_enumT_end (I.ok.hd hc) he hit hT (by simp; omega) fun h' eb => ⟨rfl, I.turned (t' := s.toks) (fun b o hb q => eb b o hb q) f0 f1 f3 f4 f5⟩
  self := fun A i s Q E st h => let ⟨⟨_, he⟩, _⟩ := st; wpAny_pyIter_enum he h
end
end Pv
namespace PySem
open Sem (wp)
open AutoSeq1 (wpAny_loadPart')
set_option maxRecDepth 100000
theorem meets_enumT (l : Addr) (items : Array Value) (n : Nat) (dct : Option Addr) (sl : Array (Option Value)) : Meets (Builtin.«enumerate.__new__» ⟨[.type "enumerate", .ref l], []⟩) (fun _ R s =>
    s.heap.get? l = some { cls := .type "tuple", dict := dct, data := .seq items n, slots := sl } ∧ R (.ok (.ret (.ref (s.heap.push { cls := .type "tuple_iterator", data := .fields #[.ref l, .int 0 0] }).objs.size)))
      { s with heap := (s.heap.push { cls := .type "tuple_iterator", data := .fields #[.ref l, .int 0 0] }).push { cls := .type "enumerate", data := .fields #[.none, .bool false, .ref s.heap.objs.size, rawInt 0, .none, .none] } }) := .of_wp fun prog w A R s h => by
    obtain ⟨hp, g, d, tk, os⟩ := s; obtain ⟨hl, h⟩ := h
    have hsub := sub_enumerate
    have hT : Heap.IsTuple (Shared.heap ⟨hp, g, d, tk, os⟩) l items := ⟨_, hl, rfl, n, rfl⟩
    wp_walk using wpAny_loadPart' hl
    refine wpAny_stack_any fun st => wpAny_pure ?_
    split
    · rename_i c _ _ _ _ _
      cases (c == Value.type "enumerate") <;> (wp_walk using wpAny_loadPart' hl, wpAny_pyIter_tuple hT; exact ⟨_, rfl, h⟩)
    · wp_walk using wpAny_loadPart' hl, wpAny_pyIter_tuple hT
      exact ⟨_, rfl, h⟩
theorem call_enumerate_tupleT {prog : Program} {w : World} {A : Around} {E : Value → Shared → Prop} {s : Shared} {l : Addr} {items : Array Value} {Q : Value → Shared → Prop} (hL : s.heap.IsTuple l items)
    (h : ∀ h', IsEnum h' (s.heap.objs.size + 1) s.heap.objs.size 0 .none → h'.IsTupleIter s.heap.objs.size l 0 → (∀ b o, s.heap.get? b = some o → h'.get? b = some o) → Q (.ref (s.heap.objs.size + 1)) { s with heap := h' }) :
    wpAny (model prog w) A (call (.type "enumerate") [.ref l]) Q E s := by
  obtain ⟨⟨c, dct, dt, sl⟩, hl, hc, n, hd⟩ := hL
  obtain rfl : c = .type "tuple" := hc
  obtain rfl : dt = .seq items n := hd
  refine callType_new F.called_enumerate (by decide) (F.typeCall_enumerate_1 _) (F.newCall_enumerate_1 _) (fun obj => F.args_object_init_2 obj _) F.entry_enumerate_new (meets_enumT l items n dct sl) ⟨hl, ?_⟩
  have hz : (s.heap.push { cls := .type "tuple_iterator", data := .fields #[.ref l, .int 0 0] }).objs.size = s.heap.objs.size + 1 := Heap.size_push ..
  have he : IsEnum ((s.heap.push { cls := .type "tuple_iterator", data := .fields #[.ref l, .int 0 0] }).push { cls := .type "enumerate", data := .fields #[.none, .bool false, .ref s.heap.objs.size, rawInt 0, .none, .none] }) (s.heap.objs.size + 1) s.heap.objs.size 0 .none := by
    have e1 := Heap.get?_push_size (s.heap.push { cls := .type "tuple_iterator", data := .fields #[.ref l, .int 0 0] }) (o := { cls := .type "enumerate", data := .fields #[.none, .bool false, .ref s.heap.objs.size, rawInt 0, .none, .none] }) rfl
    rw [hz] at e1
    exact e1
  show _ ∧ _
  rw [hz]
  exact ⟨⟨_, he, rfl⟩, h _ he ⟨_, Heap.get?_push_of_some _ (Heap.get?_push_size _ rfl), rfl, rfl⟩ fun b o x => Heap.get?_push_of_some _ (Heap.get?_push_of_some _ x)⟩
end PySem
namespace Pv
open PySem PySem.Spec PyProof.Rows L2
section
variable {X : Cx} {K : PySem.W.Frag} {C O : List Addr} {M : Addr → Prop} {H : Hp} {st : Ms} {v v1 v2 : V} {d d1 d2 : D} {o o1 o2 os : List Addr} {Q : VK} {vs : List V} {σ : L2.St} {env env' : Env} {tg e a b c : Expr} {es : List Expr} {fs : AS} {f f1 f2 : ES} {p pos tpos : Pos}
def iEnumA (K : PySem.W.Frag) (ta : TA) : TI := fun σ H R => ta σ H fun vs H1 => ∃ a xs, vs = [.ref a] ∧ ((SqL K H1 a xs ∧ R (Ite K a) H1) ∨ (SqT K H1 a xs ∧ R (IteT K a) H1))
theorem pi_enumA {elts : List Expr} {kk : Nat} {ta : TA} (hg : Gl X "enumerate") (hm : X.mg "enumerate" = none) (ha : PA X [e] ta) (hs : starEach [e] X.env = [(false, eval e X.env)] := by rfl) : PI X (.Tuple elts kk tpos) (.Call (.Name "enumerate" p) [e] [] pos) (iEnumA X.K ta) := by
  refine ⟨fun pins s σ H R I h => Call_ (ld_blt I hg hm boot_enumerate (PyProof.Rows.callWith_type1 (thn (ha.run pos pins s σ H _ I h) fun us s1 ⟨vs, H1, I1, r1, q1⟩ => ?_) hs rfl))⟩
  obtain ⟨a, xs, rfl, hq⟩ := q1
  obtain ⟨u, rfl, rv⟩ := Vals.one r1
  cases rv
  have fp : ∀ b ∈ [s1.heap.objs.size + 1, s1.heap.objs.size], FpOk X pins H1 b := fun b hb => by
    have hle : s1.heap.objs.size ≤ b := by
      rcases (show b = s1.heap.objs.size + 1 ∨ b = s1.heap.objs.size by simpa using hb) with z | z <;> omega
    exact I1.fpOk hle (I1.hok.fresh hle)
  rcases hq with ⟨hq, q⟩ | ⟨hq, q⟩
  · obtain ⟨its, rv, pl, hz⟩ := I1.list hq
    exact call_enumerate_list pl.isList fun h' he hit hsz hk => wpAny_pyIter_enum he ⟨_, [s1.heap.objs.size + 1, s1.heap.objs.size], _, _, H1, rfl, I1.kept (t' := s1.toks) hk, turn_enum a (s1.heap.objs.size + 1) s1.heap.objs.size, ⟨⟨.none, he⟩, hit, Nat.succ_ne_self _⟩, fp, q⟩
  · obtain ⟨its, rv, pl, hz⟩ := I1.tuple hq
    have hT : s1.heap.IsTuple a its.toArray := by obtain ⟨o, ho, hc', n, hd⟩ := pl; exact ⟨o, ho, hc', n, hd⟩
    have hlt : a < s1.heap.objs.size := by obtain ⟨o, ho, _⟩ := hT; exact Heap.lt_size ho
    exact call_enumerate_tupleT hT fun h' he hit hk => wpAny_pyIter_enum he ⟨_, [s1.heap.objs.size + 1, s1.heap.objs.size], _, _, H1, rfl, I1.kept (t' := s1.toks) hk, turn_enumT a (s1.heap.objs.size + 1) s1.heap.objs.size, ⟨⟨.none, he⟩, hit, Nat.succ_ne_self _, Nat.ne_of_lt hlt, Nat.ne_of_gt (Nat.lt_succ_of_lt hlt)⟩, fp, q⟩
def wEnum (fs : AS) : WS := fun env st => (fs env st).bind fun x => match x.1 with
  | [.tup l] => some (enumD 0 l, x.2)
  | [.lst l] => some (enumD 0 l, x.2)
  | _ => none
theorem si_enum {elts : List Expr} {kk : Nat} (hg : Gl X "enumerate") (hm : X.mg "enumerate" = none) (ha : SZs X [e] fs) (hs : starEach [e] X.env = [(false, eval e X.env)] := by rfl) : SI X (.Tuple elts kk tpos) (.Call (.Name "enumerate" p) [e] [] pos) (wEnum fs) := pi_weak (pi_enumA hg hm ha hs) fun σ H R ⟨C, O, M, env, st, ds, env', st', fi, e, q⟩ => by
  unfold wEnum at e
  rw [Option.bind_eq_some_iff] at e
  obtain ⟨⟨a, env1, st1⟩, e1, e⟩ := e
  dsimp only at e
  split at e
  · cases e
    refine ⟨C, O, M, env, st, _, env', st', fi, e1, fun vs H1 C1 O1 M1 g1 fi1 r1 => ?_⟩
    obtain ⟨v, rfl, r9⟩ := rvs_one0 r1
    generalize hz : ([] : List Addr) = z at r9
    cases r9 with
    | @tup p xs _ _ h r =>
      subst hz
      exact ⟨p, xs, rfl, .inr ⟨tr_keep .refl fi1.ci.mC fi1.mO h, q _ H1 C1 O1 M1 g1 fi1 (iteT_ok fi1.ci.mC fi1.mO (fun C2 O2 M2 H2 g2 => tr_keep g2 fi1.ci.mC fi1.mO h) r)⟩⟩
  · cases e
    refine ⟨C, O, M, env, st, _, env', st', fi, e1, fun vs H1 C1 O1 M1 g1 fi1 r1 => ?_⟩
    obtain ⟨v, rfl, r9⟩ := rvs_one0 r1
    cases r9 with
    | @lst p xs _ h r =>
      exact ⟨p, xs, rfl, .inl ⟨SqL.of h.1, q _ H1 C1 O1 M1 g1 fi1 (ite_ok fi1.ci.mC fi1.mO (fun C2 O2 M2 H2 g2 => SqL.of (go_lr g2 fi1.ci.mC fi1.mO h.1 h.2)) r)⟩⟩
  · cases e
/-! ### list(range(n)), list(range(a, b)) -/
def rgD (a b : Int) : List D := steps a 1 (b - a).toNat
theorem rgD_ok {x y : Int} : RVs K C M H (rgV x y) (rgD x y) [] := by
  unfold rgV rgD steps
  generalize (y - x).toNat = n
  have : ∀ l : List Nat, RVs K C M H (l.map fun i => V.int (x + (i : Nat))) (l.map fun (i : Nat) => D.int (x + (i : Int) * 1)) [] := by
    intro l
    induction l with
    | nil => exact .nil
    | cons i l ih =>
      rw [List.map_cons, List.map_cons, Int.mul_one]
      exact RVs.cons0 (.int _) ih
  exact this _
def fLrg1 (f : ES) : ES := fun env st => (f env st).bind fun x => match x.1 with
  | .int n => if okR n = true then some (.own (rgD 0 n), x.2) else none
  | _ => none
theorem se_lrg1 {p2 pos2 : Pos} (hc : X.calm = true) (hg : Gl X "list") (hm : X.mg "list" = none) (hg2 : Gl X "range") (hm2 : X.mg "range" = none) (ha : SP X a f) (na : starEach [a] X.env = (false, eval a X.env) :: starEach [] X.env := by rfl)
    (nb : starEach [.Call (.Name "range" p) [a] [] pos] X.env = (false, eval (.Call (.Name "range" p) [a] [] pos) X.env) :: starEach [] X.env := by rfl) :
    SE X (.Call (.Name "list" p2) [.Call (.Name "range" p) [a] [] pos] [] pos2) (fLrg1 f) := pe_weak (pe_listRg hc hg hm (prg_1 hg2 hm2 ha na) nb) fun σ H Q ⟨C, O, M, env, st, d, env', st', fi, e, q⟩ => by
  unfold fLrg1 at e
  rw [Option.bind_eq_some_iff] at e
  obtain ⟨⟨a, env1, st1⟩, e1, e⟩ := e
  dsimp only at e
  split at e
  · split at e
    · rename_i n hb
      cases e
      have hb2 := okR_le hb
      refine ⟨C, O, M, env, st, _, env', st', fi, e1, fun v1 H1 C1 O1 M1 o1 g1 fi1 r1 n1 => ?_⟩
      cases r1
      exact ⟨n, rfl, ⟨by omega, by omega, by omega, by omega, by omega⟩, fun p hp => ans_new fi1.ci rgD_ok (ans_of fi g1 fi1 q) hp⟩
    · cases e
  · cases e
/-! ### a, b = e -/
def gNames : List Nat → TGs
  | [] => gNil
  | i :: is => gCons (gName i) (gNames is)
def setAll : List Nat → List D → Env → Option Env
  | [], [], env => some env
  | i :: is, d :: ds, env => if i < env.length then setAll is ds (env.set i (some d)) else none
  | _, _, _ => none
theorem names_ok : ∀ (is : List Nat) {ds : List D} {vs : List V} {os : List Addr} {O : List Addr} {σ : L2.St} {env env' : Env} {Q : L2.St → Hp → Prop}, FI K C O M H σ env st → RVs K C M H vs ds os → os.Nodup → (∀ a ∈ os, a ∉ C ∧ a ∉ O ∧ M a) → setAll is ds env = some env' →
    (∀ σ' O', FI K C O' M H σ' env' st → (∀ a ∈ O', a ∈ O ∨ a ∈ os) → Q σ' H) → gNames is vs σ H Q
  | [], ds, vs, os, O, σ, env, env', Q, fi, r, nd, n, e, q => by
    cases r with
    | nil =>
      simp only [setAll, Option.some.injEq] at e
      subst e
      exact ⟨rfl, q σ O fi fun _ h => .inl h⟩
    | cons => simp [setAll] at e
  | i :: is, ds, vs, os, O, σ, env, env', Q, fi, r, nd, n, e, q => by
    cases r with
    | nil => simp [setAll] at e
    | @cons v vs d ds o1 o2 h r =>
      simp only [setAll] at e
      split at e
      · rename_i hi
        rw [List.nodup_append] at nd
        obtain ⟨nd1, nd2, nd3⟩ := nd
        obtain ⟨O1, f1, s1⟩ := fi.set hi h nd1 fun a ha => n a (List.mem_append_left _ ha)
        refine ⟨v, vs, rfl, names_ok is f1 r nd2 (fun a ha => ?_) e fun σ' O' f' s' => q σ' O' f' fun a ha => ?_⟩
        · obtain ⟨m1, m2, m3⟩ := n a (List.mem_append_right _ ha)
          refine ⟨m1, fun z => ?_, m3⟩
          rcases s1 a z with w | w
          · exact m2 w
          · exact nd3 a w a ha rfl
        · rcases s' a ha with w | w
          · rcases s1 a w with w | w
            · exact .inl w
            · exact .inr (List.mem_append_left _ w)
          · exact .inr (List.mem_append_right _ w)
      · cases e
def sUnp (is : List Nat) (f : ES) : SS := fun env st => (f env st).bind fun x => match x.1 with
  | .tup ds => if ds.length = is.length then (setAll is ds x.2.1).map fun e => .nx e x.2.2 else none
  | _ => none
theorem ts_unp {is : List Nat} {N : Ends} (h : tS K (sUnp is f) N σ H) : tAsg (tE K f) (gTup K is.length (gNames is)) N σ H := by
  obtain ⟨C, O, M, env, st, r, fi, e, q⟩ := h
  unfold sUnp at e
  rw [Option.bind_eq_some_iff] at e
  obtain ⟨⟨a, env1, st1⟩, e1, e⟩ := e
  dsimp only at e
  split at e
  · rename_i ds
    split at e
    · rename_i hl
      rw [Option.map_eq_some_iff] at e
      obtain ⟨env2, e2, rfl⟩ := e
      refine ⟨C, O, M, env, st, .tup ds, env1, st1, fi, e1, fun v H1 C1 O1 M1 os g1 fi1 r1 nd n1 => ?_⟩
      cases r1 with
      | @tup p xs _ _ h r =>
        refine ⟨p, xs, rfl, tr_keep .refl fi1.ci.mC fi1.mO h, r.len.trans hl, names_ok is fi1 r nd (fun a ha => ⟨(n1 a ha).1, (n1 a ha).2.1, (n1 a ha).2.2.1⟩) e2 fun σ' O' f' s' => ?_⟩
        refine q σ' H1 C1 O' M1 ⟨fun a o h1 _ h3 => g1.keep a o h1 (fun z => z.elim) h3, g1.pre, g1.weak.newc, g1.fresh, g1.forn, fun a ha => ?_, g1.back⟩ f'
        rcases s' a ha with z | z
        · exact g1.ownd a z
        · exact (n1 a z).2.2.2
    · cases e
  · cases e
theorem s1_unp {is : List Nat} {k : Nat} {ss : List Expr} {ex : Expr} {spos : Pos} (he : SE X ex f) (hg : PG X (.Tuple ss k tpos) (gTup X.K is.length (gNames is))) (hs : swapsWithSole [.Tuple ss k tpos] ex spos.line X.env = pure false := by rfl) (hw : swappedStores [.Tuple ss k tpos] ex X.env = pure none := by rfl)
    (h1 : (assignEach [.Tuple ss k tpos] X.env).map (·.2) = [assign (.Tuple ss k tpos) X.env] := by rfl) : SS1 X (.Assign [.Tuple ss k tpos] ex spos) (sUnp is f) := ps_weak (ps_asg he hg hs hw h1) fun _ _ _ h => ts_unp h
/-- x, y = e1, e2, two locals: no tuple is made -/
def sPar (i j : Nat) (fs : AS) : SS := fun env st => (fs env st).bind fun x => match x.1 with
  | [d1, d2] => (setAll [i, j] [d1, d2] x.2.1).map fun e => .nx e x.2.2
  | _ => none
theorem ts_par {i j : Nat} {N : Ends} (h : tS K (sPar i j fs) N σ H) : tPar i j (tEs K fs) N σ H := by
  obtain ⟨C, O, M, env, st, r, fi, e, q⟩ := h
  unfold sPar at e
  rw [Option.bind_eq_some_iff] at e
  obtain ⟨⟨a, env1, st1⟩, e1, e⟩ := e
  dsimp only at e
  split at e
  · rename_i d1 d2
    rw [Option.map_eq_some_iff] at e
    obtain ⟨env2, e2, rfl⟩ := e
    refine ⟨C, O, M, env, st, [d1, d2], env1, st1, fi, e1, fun vs H1 C1 O1 M1 os g1 fi1 r1 nd n1 => ?_⟩
    have w := names_ok [i, j] (Q := fun σ' H' => ∀ σ'' , σ' = σ'' → N.nx σ'' H') fi1 r1 nd (fun a ha => ⟨(n1 a ha).1, (n1 a ha).2.1, (n1 a ha).2.2.1⟩) e2 fun σ' O' f' s' σ'' e => by
      subst e
      refine q σ' H1 C1 O' M1 ⟨fun a o h1 _ h3 => g1.keep a o h1 (fun z => z.elim) h3, g1.pre, g1.weak.newc, g1.fresh, g1.forn, fun a ha => ?_, g1.back⟩ f'
      rcases s' a ha with z | z
      · exact g1.ownd a z
      · exact (n1 a z).2.2.2
    obtain ⟨v, r1', rfl, v2, r2', rfl, rfl, w⟩ := w
    exact ⟨v, v2, rfl, w _ rfl⟩
  · cases e
theorem s1_par {i j : Nat} {x y : Str} {px py pt : Pos} {kt k2 : Nat} {pt2 spos : Pos} (hc : X.calm = true) (hN : X.N.Nodup) (hi : X.N[i]? = some x) (hj : X.N[j]? = some y) (hij : i ≠ j) (hx : X.env.scope.names.lookup x = some .local) (hy : X.env.scope.names.lookup y = some .local) (ha : SEs X [a, b] fs)
    (hw : swappedStores [.Tuple [.Name x px, .Name y py] kt pt] (.Tuple [a, b] k2 pt2) X.env = pure (some [x, y])) (hs : swapsWithSole [.Tuple [.Name x px, .Name y py] kt pt] (.Tuple [a, b] k2 pt2) spos.line X.env = pure false := by rfl) :
    SS1 X (.Assign [.Tuple [.Name x px, .Name y py] kt pt] (.Tuple [a, b] k2 pt2) spos) (sPar i j fs) := ps_weak (ps_par hc hN hi hj hij hx hy ha hw hs) fun _ _ _ h => ts_par h
end
end Pv

/-! # PvN -/
set_option Elab.async false
set_option linter.all false
set_option maxHeartbeats 1000000
/-! keywords; the law's end -/
namespace Pv
open PySem PySem.Spec PyProof.Rows L2
section
variable {X : Cx} {k : Nat} {f : Addr} {fd : FuncData} {ps ks : List Str} {x : Str} {p pos kpos : Pos} {e : Expr} {es : List Expr} {kws : List Keyword} {m : FS} {fs fk : AS} {fe : ES} {nm : Option Str}
def SK (X : Cx) (kws : List Keyword) (fk : AS) : Prop := PK X kws (tZs X.K fk)
theorem pk_weak {t t' : TA} (h : PK X kws t) (i : ∀ σ H Q, t' σ H Q → t σ H Q) : PK X kws t' := ⟨fun pos pins s σ H Q I q => h.run pos pins s σ H Q I (i σ H Q q)⟩
theorem sk_nil : SK X [] aNil := pk_weak pk_nil fun σ H Q ⟨C, O, M, env, st, d, env', st', fi, e, q⟩ => by
  cases e
  exact q [] H C O M .refl fi .nil
theorem sk_cons (h : SZ X e fe) (r : SK X kws fk) : SK X (⟨nm, e, kpos⟩ :: kws) (aCons fe fk) := pk_weak (pk_cons h r) fun σ H Q ⟨C, O, M, env, st, d, env', st', fi, e, q⟩ => by
  unfold aCons at e
  rw [Option.bind_eq_some_iff] at e
  obtain ⟨⟨a, env1, st1⟩, e1, e⟩ := e
  rw [Option.map_eq_some_iff] at e
  obtain ⟨⟨c, env2, st2⟩, e2, e⟩ := e
  cases e
  refine ⟨C, O, M, env, st, a, env1, st1, fi, e1, fun v1 H1 C1 O1 M1 g1 fi1 r1 => ⟨C1, O1, M1, env1, st1, c, env', st', fi1, e2, fun v2 H2 C2 O2 M2 g2 fi2 r2 => ?_⟩⟩
  exact q (v1 :: v2) H2 C2 O2 M2 (g1.trans fi.ci.tr g2) fi2 (.cons0 (g2.rv fi1.ci.mC r1 fun a ha => nomatch ha) r2)
/-- how keywords are put in the parameters' order: places in the written row -/
def pmOf (is : List Nat) {α : Type} (us zs : List α) : List α := is.filterMap fun i => (us ++ zs)[i]?
def RVp (K : PySem.W.Frag) (C : List Addr) (M : Addr → Prop) (H : Hp) (v : V) (d : D) : Prop := RV K C M H v d []
theorem rvs_pm {K : PySem.W.Frag} {C : List Addr} {M : Addr → Prop} {H : Hp} (is : List Nat) {vs zs : List V} {ds es : List D} (r1 : RVs K C M H vs ds []) (r2 : RVs K C M H zs es []) : RVs K C M H (pmOf is vs zs) (pmOf is ds es) [] := by
  have r := r1.app0 r2
  unfold pmOf
  induction is with
  | nil => exact .nil
  | cons i is ih =>
    cases h : (ds ++ es)[i]? with
    | none =>
      have h2 : (vs ++ zs)[i]? = none := by
        rw [List.getElem?_eq_none_iff] at h ⊢
        rw [r.len]
        exact h
      rw [List.filterMap_cons_none h, List.filterMap_cons_none h2]
      exact ih
    | some d =>
      obtain ⟨v, hv, rv⟩ := r.get0 h
      rw [List.filterMap_cons_some h, List.filterMap_cons_some hv]
      exact .cons0 rv ih
theorem pm_rel {α β : Type} (R : α → β → Prop) (is : List Nat) {us zs : List α} {vs ws : List β} (h : Paired R us vs) (h2 : Paired R zs ws) : Paired R (pmOf is us zs) (pmOf is vs ws) := by
  have ha : ∀ {a b : List α} {c d : List β}, Paired R a c → Paired R b d → Paired R (a ++ b) (c ++ d) := by
    intro a b c d h h2
    induction h with
    | nil => exact h2
    | cons r _ ih => exact .cons r ih
  have hg : ∀ {a : List α} {c : List β} {i : Nat}, Paired R a c → (a[i]? = none ∧ c[i]? = none) ∨ ∃ x y, a[i]? = some x ∧ c[i]? = some y ∧ R x y := by
    intro a c i h
    induction h generalizing i with
    | nil => exact .inl ⟨by simp, by simp⟩
    | cons r _ ih =>
      cases i with
      | zero => exact .inr ⟨_, _, by simp, by simp, r⟩
      | succ i => simpa using ih (i := i)
  unfold pmOf
  induction is with
  | nil => exact .nil
  | cons i is ih =>
    rcases hg (i := i) (ha h h2) with ⟨e1, e2⟩ | ⟨x, y, e1, e2, r⟩
    · rw [List.filterMap_cons_none e1, List.filterMap_cons_none e2]
      exact ih
    · rw [List.filterMap_cons_some e1, List.filterMap_cons_some e2]
      exact .cons r ih
/-- the binding of n positional values and keywords ks: by the places is -/
theorem kb_mk {K : PySem.W.Frag} {is : List Nat} {n : Nat} (h : ∀ (s : Shared) (us ws : List Value), us.length = n → ws.length = ks.length → BindsTo s fd ⟨us, ks.zip ws⟩ (ps.zip (pmOf is us ws))) : KB K fd ps ks n (fun us ws => pmOf is us ws) :=
  ⟨fun s us ws _ h1 h2 => h s us ws h1 h2, fun R _ _ _ _ _ _ h1 h2 => pm_rel R is h1 h2⟩
def fCallK0 (m : FS) (is : List Nat) (nk : Nat) (fk : AS) : ES := fun env st => (fk env st).bind fun x => if x.1.length = nk then (m (pmOf is [] x.1) x.2.2).map fun y => (y.1, x.2.1, y.2) else none
theorem se_callK0 {is : List Nat} {nk : Nat} (F : FnG X.prog X.w X.K X.mg X.base k f fd ps (spM X.K m)) (hr : Room k X.A) (hgd : X.A.guards = some []) (hg : Gl X x) (hm : X.mg x = some (.ref f)) (hk : PySem.W.keepIn X.K (.ref f) = true) (hb : KB X.K fd ps ks 0 (fun us ws => pmOf is us ws)) (hn : ks.length = nk)
    (hkw : SK X kws fk) (hall : (backToKw pos (keywordEach kws X.env)).all (·.1.isSome) = true := by rfl) (hks : (backToKw pos (keywordEach kws X.env)).filterMap (·.1) = ks := by rfl)
    (hdb : (x == ("__debug__" : Str)) = false := by decide)
    (hpl : ((backTo pos (starEach [] X.env)).any (·.1) || (backToKw pos (keywordEach kws X.env)).any (·.1.isNone)) = false := by rfl) :
    SE X (.Call (.Name x p) [] kws pos) (fCallK0 m is nk fk) := pe_weak (pe_callKG0 F hr hgd hg hm hk hb hkw hall hks hdb hpl) fun σ H Q ⟨C, O, M, env, st, d, env', st', fi, e, q⟩ => by
  unfold fCallK0 at e
  rw [Option.bind_eq_some_iff] at e
  obtain ⟨⟨ds, env1, st1⟩, e1, e⟩ := e
  dsimp only at e
  split at e
  · rename_i hl
    rw [Option.map_eq_some_iff] at e
    obtain ⟨⟨r, st2⟩, e2, e⟩ := e
    simp only [Prod.mk.injEq] at e
    obtain ⟨e3, e4, e5⟩ := e
    subst e3 e4 e5
    exact ⟨C, O, M, env, st, ds, env1, st1, fi, e1, fun vs H1 C1 O1 M1 g1 fi1 rv1 => ⟨by rw [rv1.len, hl, hn], C1, M1, st1, pmOf is [] ds, r, st2, fi1.ci, rvs_pm is .nil rv1, e2, fun v H2 M2 os g ci rv nd n => call_done fi g1 fi1 q g ci rv nd n⟩⟩
  · cases e
def fCallK (m : FS) (is : List Nat) (n nk : Nat) (fs fk : AS) : ES := fun env st => (fs env st).bind fun x => (fk x.2.1 x.2.2).bind fun y => if x.1.length = n ∧ y.1.length = nk then (m (pmOf is x.1 y.1) y.2.2).map fun z => (z.1, y.2.1, z.2) else none
theorem se_callK {is : List Nat} {n nk : Nat} (F : FnG X.prog X.w X.K X.mg X.base k f fd ps (spM X.K m)) (hr : Room k X.A) (hgd : X.A.guards = some []) (hg : Gl X x) (hm : X.mg x = some (.ref f)) (hk : PySem.W.keepIn X.K (.ref f) = true) (hb : KB X.K fd ps ks n (fun us ws => pmOf is us ws)) (hn : ks.length = nk)
    (ha : SZs X (e :: es) fs) (hkw : SK X kws fk) (hall : (backToKw pos (keywordEach kws X.env)).all (·.1.isSome) = true := by rfl) (hks : (backToKw pos (keywordEach kws X.env)).filterMap (·.1) = ks := by rfl)
    (hdb : (x == ("__debug__" : Str)) = false := by decide) (he : starEach (e :: es) X.env = (false, eval e X.env) :: starEach es X.env := by rfl)
    (hpl : ((backTo pos (starEach (e :: es) X.env)).any (·.1) || (backToKw pos (keywordEach kws X.env)).any (·.1.isNone)) = false := by rfl) :
    SE X (.Call (.Name x p) (e :: es) kws pos) (fCallK m is n nk fs fk) := pe_weak (pe_callKG F hr hgd hg hm hk hb ha hkw hall hks hdb he hpl) fun σ H Q ⟨C, O, M, env, st, d, env', st', fi, e, q⟩ => by
  unfold fCallK at e
  rw [Option.bind_eq_some_iff] at e
  obtain ⟨⟨ds, env1, st1⟩, e1, e⟩ := e
  rw [Option.bind_eq_some_iff] at e
  obtain ⟨⟨zs, env2, st2⟩, e2, e⟩ := e
  dsimp only at e e2
  split at e
  · rename_i hl
    rw [Option.map_eq_some_iff] at e
    obtain ⟨⟨r, st3⟩, e3, e⟩ := e
    simp only [Prod.mk.injEq] at e
    obtain ⟨e4, e5, e6⟩ := e
    subst e4 e5 e6
    refine ⟨C, O, M, env, st, ds, env1, st1, fi, e1, fun vs H1 C1 O1 M1 g1 fi1 rv1 => ⟨C1, O1, M1, env1, st1, zs, env2, st2, fi1, e2, fun ws H2 C2 O2 M2 g2 fi2 rv2 => ⟨by rw [rv1.len, hl.1], by rw [rv2.len, hl.2, hn], C2, M2, st2, pmOf is ds zs, r, st3, fi2.ci, rvs_pm is (g2.rvs fi1.ci.mC rv1 fun a ha => nomatch ha) rv2, e3, fun v H3 M3 os g ci rv nd n => call_done fi (g1.trans fi.ci.tr g2) fi2 q g ci rv nd n⟩⟩⟩
  · cases e
end

/-! ### the law's end -/
theorem paired_ints : ∀ {vs : List Value} {ns : List Int}, IntsAre vs ns → Vals (ns.map V.int) vs
  | _, _, .nil => .nil
  | _, _, .cons n t h => .cons ⟨t, rfl⟩ (paired_ints h)
theorem no_ci {K : PySem.W.Frag} {H : Hp} : CI K [] (fun _ => False) H [] := ⟨rfl, fun i ds p e _ => by simp at e, .nil, fun p h => (nomatch h), fun p h => h.elim⟩
theorem law_G {P : Program} {w : World} {K : PySem.W.Frag} {mg mb : Str → Option Value} {k : Nat} {fa a : Addr} {fd : FuncData} {x : Str} {m : FS} {s₁ : Shared} {vs : List Value} {ns : List Int}
    (KX : K.In s₁.heap) (hns : s₁.heap.Ns mainGlobals mg) (hb : s₁.heap.Ns builtinsNs mb) (hbb : ∀ x : Str, x ≠ "__name__" → mb x = bootBuiltins x) (hlim : s₁.heap.NoLimit) (hg : s₁.gens = #[])
    (ha : s₁.heap.get? a = some { cls := .type "list", data := .seq vs.toArray }) (hi : IntsAre vs ns) (hl : ns.length ≤ sizeLine) (hr : Room k callerA)
    (F : ∀ base : Heap, K.In base → base.Ns mainGlobals mg → FnG P w K mg base k fa fd [x] (spM K m)) (hbind : ∀ (s : Shared) (u : Value), BindsTo s fd ⟨[u], []⟩ [(x, u)]) (hm : ∃ st, m [.scr ns] [] = some (.bl true, st)) :
    codeAny (model P w) callerA (.call (.ref fa) ⟨[.ref a], []⟩) (fun r s' => r = .ok (.ret (.bool true)) ∧ OldK s₁.heap s'.heap ∧ s'.os = s₁.os ∧ AllBare s'.gens) s₁ := by
  obtain ⟨stE, hm⟩ := hm
  have rv := paired_ints hi
  have go : ∀ H : Hp, (∀ b o, H b = some o → b = a ∧ o = .frz { cls := .type "list", data := .seq vs.toArray } (.lst (ns.map V.int)) ∧ K.lookup a = none) → ZR K (fun _ => False) H a (ns.map V.int) → HOk P w H s₁.heap →
      codeAny (model P w) callerA (.call (.ref fa) ⟨[.ref a], []⟩) (fun r s' => r = .ok (.ret (.bool true)) ∧ OldK s₁.heap s'.heap ∧ s'.os = s₁.os ∧ AllBare s'.gens) s₁ := by
    intro H only hz hok
    have notA : ∀ {b : Addr} {o : Obj} {es : Array DictEntry} {ep : Nat}, s₁.heap.get? b = some o → o.data = .dict es ep → H b = none := fun {b o es ep} e d => by
      cases q : H b with
      | none => rfl
      | some u =>
        obtain ⟨rfl, _⟩ := only b u q
        rw [ha] at e
        cases e
        have d' : Data.seq vs.toArray _ = Data.dict es ep := d
        cases d'
    have nsK : ∀ {b : Addr} {m : Str → Option Value}, s₁.heap.Ns b m → (hidT s₁.heap H).Ns b m := fun {b m} ⟨o, es, ep, e, d, r⟩ => ⟨o, es, ep, hidT_get e (notA e d), d, r⟩
    have kb : K.In (hidT s₁.heap H) := fun b o e => hidT_get (KX b o e) (by
      cases q : H b with
      | none => rfl
      | some u =>
        obtain ⟨rfl, _, z⟩ := only b u q
        rw [z] at e
        cases e)
    obtain ⟨mc, l1, l2⟩ := hlim
    have md : Mod K mg (hidT s₁.heap H) := ⟨kb, nsK hns, ⟨mb, nsK hb, hbb⟩, mc, nsK l1, l2⟩
    have e0 : Env0 P w K mg (hidT s₁.heap H) callerA [] s₁ H := ⟨rfl, md, fun b o e => of_hidT e, Nat.le_of_eq (hidT_size _ _), trivial, fun b hb => absurd (show b ∈ ([] : List Addr) from hb) (by simp), hok, .of_eq hg⟩
    have hsp : spM K m [.ref a] H (fun v _ => v = .bl true) (fun _ _ _ => False) :=
      ⟨[], fun _ => False, [], [.scr ns], .bl true, stE, no_ci, RVs.one (.scr hz), hm, fun v H' M' os _ _ rv _ _ => (rv_bl rv).1⟩
    refine codeAny_mono ((F _ kb (nsK hns)).run callerA [] s₁ H ⟨[.ref a], []⟩ [.ref a] [.ref a] _ _ hr rfl e0 (hbind s₁ (.ref a)) (.cons rfl .nil) hsp) fun r s' h => ?_
    cases r with
    | error e => exact h.elim
    | ok fl =>
      cases fl with
      | next => exact False.elim h
      | brk => exact False.elim h
      | cont => exact False.elim h
      | ret u =>
        obtain ⟨v, H', os, bare, un, hok', r', q⟩ := h
        obtain rfl : v = .bl true := q
        obtain rfl : u = Value.bool true := r'
        refine ⟨rfl, OldK.of_keep fun b o e => ?_, os, bare⟩
        cases q : H b with
        | none => exact un.keep b o e q (fun z => absurd (show b ∈ ([] : List Addr) from z) (by simp)) (by simp)
        | some u =>
          obtain ⟨rfl, rfl, _⟩ := only b u q
          obtain ⟨e2, _⟩ := hok' b _ (un.frzs b _ _ q)
          rw [ha] at e
          cases e
          exact e2
  cases hk : K.lookup a with
  | some o =>
    have e := KX a o hk
    rw [ha] at e
    cases e
    exact go (fun _ => none) (fun _ _ z => nomatch z) (.inr fun H' => .inr ⟨_, vs.toArray, _, hk, rfl, rfl, rfl, by rw [List.size_toArray, hi.length]; exact hl, by simpa using rv⟩) fun _ _ z => nomatch z
  | none =>
    refine go (fun b => if b = a then some (.frz { cls := .type "list", data := .seq vs.toArray } (.lst (ns.map V.int))) else none) (fun b o z => ?_) (.inl ⟨.inr ⟨{ cls := .type "list", data := .seq vs.toArray }, if_pos rfl⟩, fun z => z⟩) fun b u z => ?_
    · by_cases hb : b = a
      · have z' := (if_pos hb).symm.trans z
        cases z'
        exact ⟨hb, rfl, hk⟩
      · cases (if_neg hb).symm.trans z
    · by_cases hb : b = a
      · have z' := (if_pos hb).symm.trans z
        cases z'
        subst hb
        exact ⟨ha, by rw [List.length_map]; exact hl, vs, _, rv, ha⟩
      · cases (if_neg hb).symm.trans z
theorem walk_G {l : PySem.W.OpenLaw} {n k : Nat} {q : Program} {loose : List Str} {XP : (Str → Option Value) → Heap → Prop} {YP : World → Heap → Prop} {d : DefRec} {K : Params → PySem.W.Frag} {m : FS} {x : Str} (hn : l.most = some n) (hn2 : n ≤ sizeLine) (hdf : d.params.defaults = []) (hr : Room k callerA) (hY : ∀ (w : World) (h : Heap), YP w h → (K w.params).In h)
    (F : ∀ (w : World) (mg : Str → Option Value) (fa : Addr) (h : Heap), (K w.params).In h → h.Ns mainGlobals mg → mg d.name = some (.ref fa) → ∃ fd : FuncData, (∀ (s : Shared) (u : Value), BindsTo s fd ⟨[u], []⟩ [(x, u)]) ∧ ∀ base : Heap, (K w.params).In base → base.Ns mainGlobals mg → FnG l.prog w (K w.params) mg base k fa fd [x] (spM (K w.params) m))
    (hm : ∀ ns : List Int, ns.length ≤ n → ∃ st, m [.scr ns] [] = some (.bl true, st)) : PySem.W.WalkO q loose XP YP l.row.toRowW d [] (fun f vs => PySem.call f vs) := by
  refine Att.attach_call hn hdf fun w s₀ s₁ mg mb fa o pm cd doc a vs ns G Y ho hd hcd hmg hobj hints hlen hg => ?_
  have KX := hY w _ Y
  obtain ⟨fd, hb, hF⟩ := F w mg fa _ KX G.T.g hmg
  exact law_G KX G.T.g G.T.b G.T.builtins G.T.nolimit hg hobj hints (Nat.le_trans hlen hn2) hr hF hb (hm ns hlen)
end Pv

/-! # PvO -/
set_option Elab.async false
set_option linter.all false
set_option maxHeartbeats 1000000
/-! short forms for the printed terms -/
namespace Pv
open PySem PySem.Spec PyProof.Rows L2
section
variable {X : Cx} {e c a b elt tg iter ex : Expr} {es : List Expr} {pos p p2 pos2 tpos : Pos} {fe f1 f2 f : ES} {fs fk : AS} {x : Str} {kws : List Keyword}
theorem pi_or {t1 t2 : TI} (h1 : PI X tg e t1) (h2 : PI X tg e t2) : PI X tg e (fun σ H R => t1 σ H R ∨ t2 σ H R) := ⟨fun pins s σ H R I q => q.elim (h1.run pins s σ H R I) (h2.run pins s σ H R I)⟩
/-- over a list, the script or a tuple -/
def wSeq (f : ES) : WS := fun env st => (f env st).bind fun x => match x.1 with
  | .lst ds => some (ds, x.2)
  | .scr ns => some (ns.map D.int, x.2)
  | .tup ds => some (ds, x.2)
  | _ => none
theorem si_seq (h : SZ X e fe) : SI X tg e (wSeq fe) := pi_weak (pi_or (si_lst (tg := tg) h) (si_tup (tg := tg) h)) fun σ H R ⟨C, O, M, env, st, ds, env', st', fi, e, q⟩ => by
  unfold wSeq at e
  rw [Option.bind_eq_some_iff] at e
  obtain ⟨⟨d, env1, st1⟩, e1, e⟩ := e
  cases d with
  | lst l => exact .inl ⟨C, O, M, env, st, ds, env', st', fi, by unfold wLst; rw [e1]; exact e, q⟩
  | scr l => exact .inl ⟨C, O, M, env, st, ds, env', st', fi, by unfold wLst; rw [e1]; exact e, q⟩
  | tup l => exact .inr ⟨C, O, M, env, st, ds, env', st', fi, by unfold wTup; rw [e1]; exact e, q⟩
  | _ => cases e
theorem pe_ty {T : String} (hg : Gl X x) (hm : X.mg x = none) (hv : bootBuiltins x = some (.type T)) (hn : x ≠ "__name__" := by decide) (hdb : (x == ("__debug__" : Str)) = false := by decide) : PE X (.Name x pos) (tC (.ty T)) :=
  ⟨fun pins s σ H Q I h => ld_blt I hg hm hv ⟨.ty T, H, I, rfl, h⟩ hn hdb⟩
theorem kit_int : ∀ a ∈ tys, kitB a "int" = some (a == "int" || (a == "bool" && "int" == "int")) := by decide +kernel
theorem kit_bool : ∀ a ∈ tys, kitB a "bool" = some (a == "bool" || (a == "bool" && "bool" == "int")) := by decide +kernel
theorem kit_str : ∀ a ∈ tys, kitB a "str" = some (a == "str" || (a == "bool" && "str" == "int")) := by decide +kernel
theorem kit_tuple : ∀ a ∈ tys, kitB a "tuple" = some (a == "tuple" || (a == "bool" && "tuple" == "int")) := by decide +kernel
theorem kit_list : ∀ a ∈ tys, kitB a "list" = some (a == "list" || (a == "bool" && "list" == "int")) := by decide +kernel
theorem bt_len : bootBuiltins "len" = some (.builtin "len") := by decide +kernel
theorem bt_abs : bootBuiltins "abs" = some (.builtin "abs") := by decide +kernel
theorem bt_max : bootBuiltins "max" = some (.builtin "max") := by decide +kernel
theorem bt_min : bootBuiltins "min" = some (.builtin "min") := by decide +kernel
theorem bt_sum : bootBuiltins "sum" = some (.builtin "sum") := by decide +kernel
theorem bt_all : bootBuiltins "all" = some (.builtin "all") := by decide +kernel
theorem bt_any : bootBuiltins "any" = some (.builtin "any") := by decide +kernel
theorem bt_repr : bootBuiltins "repr" = some (.builtin "repr") := by decide +kernel
theorem bt_int : bootBuiltins "int" = some (.type "int") := by decide +kernel
theorem bt_bool : bootBuiltins "bool" = some (.type "bool") := by decide +kernel
theorem bt_str : bootBuiltins "str" = some (.type "str") := by decide +kernel
theorem bt_tuple : bootBuiltins "tuple" = some (.type "tuple") := by decide +kernel
theorem bt_list : bootBuiltins "list" = some (.type "list") := by decide +kernel
theorem isa_int (ga : Gl X "isinstance") (ma : X.mg "isinstance" = none) (gb : Gl X "int") (mb : X.mg "int" = none) (ha : SP X e f)
    (he : starEach (e :: [.Name "int" p2]) X.env = (false, eval e X.env) :: starEach [.Name "int" p2] X.env := by rfl) : SE X (.Call (.Name "isinstance" p) [e, .Name "int" p2] [] pos) (fIsa "int" f) := se_isa "int" kit_int ga ma ha (pe_ty gb mb bt_int) he
theorem isa_bool (ga : Gl X "isinstance") (ma : X.mg "isinstance" = none) (gb : Gl X "bool") (mb : X.mg "bool" = none) (ha : SP X e f)
    (he : starEach (e :: [.Name "bool" p2]) X.env = (false, eval e X.env) :: starEach [.Name "bool" p2] X.env := by rfl) : SE X (.Call (.Name "isinstance" p) [e, .Name "bool" p2] [] pos) (fIsa "bool" f) := se_isa "bool" kit_bool ga ma ha (pe_ty gb mb bt_bool) he
theorem isa_str (ga : Gl X "isinstance") (ma : X.mg "isinstance" = none) (gb : Gl X "str") (mb : X.mg "str" = none) (ha : SP X e f)
    (he : starEach (e :: [.Name "str" p2]) X.env = (false, eval e X.env) :: starEach [.Name "str" p2] X.env := by rfl) : SE X (.Call (.Name "isinstance" p) [e, .Name "str" p2] [] pos) (fIsa "str" f) := se_isa "str" kit_str ga ma ha (pe_ty gb mb bt_str) he
theorem isa_tuple (ga : Gl X "isinstance") (ma : X.mg "isinstance" = none) (gb : Gl X "tuple") (mb : X.mg "tuple" = none) (ha : SP X e f)
    (he : starEach (e :: [.Name "tuple" p2]) X.env = (false, eval e X.env) :: starEach [.Name "tuple" p2] X.env := by rfl) : SE X (.Call (.Name "isinstance" p) [e, .Name "tuple" p2] [] pos) (fIsa "tuple" f) := se_isa "tuple" kit_tuple ga ma ha (pe_ty gb mb bt_tuple) he
theorem isa_list (ga : Gl X "isinstance") (ma : X.mg "isinstance" = none) (gb : Gl X "list") (mb : X.mg "list" = none) (ha : SP X e f)
    (he : starEach (e :: [.Name "list" p2]) X.env = (false, eval e X.env) :: starEach [.Name "list" p2] X.env := by rfl) : SE X (.Call (.Name "isinstance" p) [e, .Name "list" p2] [] pos) (fIsa "list" f) := se_isa "list" kit_list ga ma ha (pe_ty gb mb bt_list) he
theorem b_len (hg : Gl X "len") (hm : X.mg "len" = none) (ha : SP X a f1) (he : starEach [a] X.env = (false, eval a X.env) :: starEach [] X.env := by rfl) : SE X (.Call (.Name "len" p) [a] [] pos) (fCl lenD (aCons f1 aNil)) := se_clB call_len ok_len hg hm bt_len (sps_cons ha sps_nil he) (by decide) (by decide) he
theorem b_abs (hg : Gl X "abs") (hm : X.mg "abs" = none) (ha : SP X a f1) (he : starEach [a] X.env = (false, eval a X.env) :: starEach [] X.env := by rfl) : SE X (.Call (.Name "abs" p) [a] [] pos) (fCl absD (aCons f1 aNil)) := se_clB call_abs ok_abs hg hm bt_abs (sps_cons ha sps_nil he) (by decide) (by decide) he
theorem b_max2 (hc : X.calm = true) (hg : Gl X "max") (hm : X.mg "max" = none) (ha : SP X a f1) (hb : SP X b f2) (he : starEach [a, b] X.env = (false, eval a X.env) :: starEach [b] X.env := by rfl) (he2 : starEach [b] X.env = (false, eval b X.env) :: starEach [] X.env := by rfl) (hpl : (backTo pos (starEach [b] X.env)).any (·.1) = false := by rfl) : SE X (.Call (.Name "max" p) [a, b] [] pos) (fCl max2D (aCons f1 (aCons f2 aNil))) := se_clB (call_max2 hc) ok_max2 hg hm bt_max (sps_cons ha (sps_cons hb sps_nil he2) he) (by decide) (by decide) he hpl
theorem b_min2 (hc : X.calm = true) (hg : Gl X "min") (hm : X.mg "min" = none) (ha : SP X a f1) (hb : SP X b f2) (he : starEach [a, b] X.env = (false, eval a X.env) :: starEach [b] X.env := by rfl) (he2 : starEach [b] X.env = (false, eval b X.env) :: starEach [] X.env := by rfl) (hpl : (backTo pos (starEach [b] X.env)).any (·.1) = false := by rfl) : SE X (.Call (.Name "min" p) [a, b] [] pos) (fCl min2D (aCons f1 (aCons f2 aNil))) := se_clB (call_min2 hc) ok_min2 hg hm bt_min (sps_cons ha (sps_cons hb sps_nil he2) he) (by decide) (by decide) he hpl
theorem b_sum (hc : X.calm = true) (hg : Gl X "sum") (hm : X.mg "sum" = none) (ha : SP X a f1) (he : starEach [a] X.env = (false, eval a X.env) :: starEach [] X.env := by rfl) : SE X (.Call (.Name "sum" p) [a] [] pos) (fCl sumD (aCons f1 aNil)) := se_clB (cr_sum hc) ok_sum hg hm bt_sum (sps_cons ha sps_nil he) (by decide) (by decide) he
theorem b_all (hc : X.calm = true) (hg : Gl X "all") (hm : X.mg "all" = none) (ha : SP X a f1) (he : starEach [a] X.env = (false, eval a X.env) :: starEach [] X.env := by rfl) : SE X (.Call (.Name "all" p) [a] [] pos) (fCl allD (aCons f1 aNil)) := se_clB (cr_all hc) ok_all hg hm bt_all (sps_cons ha sps_nil he) (by decide) (by decide) he
theorem b_any (hc : X.calm = true) (hg : Gl X "any") (hm : X.mg "any" = none) (ha : SP X a f1) (he : starEach [a] X.env = (false, eval a X.env) :: starEach [] X.env := by rfl) : SE X (.Call (.Name "any" p) [a] [] pos) (fCl anyD (aCons f1 aNil)) := se_clB (cr_any hc) ok_any hg hm bt_any (sps_cons ha sps_nil he) (by decide) (by decide) he
theorem b_max1 (hc : X.calm = true) (hu : X.A.units + 64 < cLine) (hg : Gl X "max") (hm : X.mg "max" = none) (ha : SP X a f1) (he : starEach [a] X.env = (false, eval a X.env) :: starEach [] X.env := by rfl) : SE X (.Call (.Name "max" p) [a] [] pos) (fCl (extD PySem.W.maxD) (aCons f1 aNil)) := se_clB (call_maxD hc hu) ok_ext hg hm bt_max (sps_cons ha sps_nil he) (by decide) (by decide) he
theorem b_min1 (hc : X.calm = true) (hu : X.A.units + 64 < cLine) (hg : Gl X "min") (hm : X.mg "min" = none) (ha : SP X a f1) (he : starEach [a] X.env = (false, eval a X.env) :: starEach [] X.env := by rfl) : SE X (.Call (.Name "min" p) [a] [] pos) (fCl (extD PySem.W.minD) (aCons f1 aNil)) := se_clB (call_minD hc hu) ok_ext hg hm bt_min (sps_cons ha sps_nil he) (by decide) (by decide) he
theorem b_repr (hgd : X.A.guards = some []) (hu : X.A.units + 64 < cLine) (hg : Gl X "repr") (hm : X.mg "repr" = none) (ha : SP X a f1) (he : starEach [a] X.env = (false, eval a X.env) :: starEach [] X.env := by rfl) : SE X (.Call (.Name "repr" p) [a] [] pos) (fCl reprD (aCons f1 aNil)) := se_clB (call_repr hgd hu) ok_repr hg hm bt_repr (sps_cons ha sps_nil he) (by decide) (by decide) he
theorem b_int (hg : Gl X "int") (hm : X.mg "int" = none) (ha : SP X a f1) (he : starEach [a] X.env = (false, eval a X.env) :: starEach [] X.env := by rfl) : SE X (.Call (.Name "int" p) [a] [] pos) (fCl int1D (aCons f1 aNil)) := se_clT call_int1 ok_int1 hg hm bt_int (sps_cons ha sps_nil he) (by decide) (by decide) he
theorem b_tuple (hg : Gl X "tuple") (hm : X.mg "tuple" = none) (ha : SP X a f1) (he : starEach [a] X.env = (false, eval a X.env) :: starEach [] X.env := by rfl) : SE X (.Call (.Name "tuple" p) [a] [] pos) (fCl tupD (aCons f1 aNil)) := se_clT call_tuple_of ok_tup hg hm bt_tuple (sps_cons ha sps_nil he) (by decide) (by decide) he
theorem b_list (hg : Gl X "list") (hm : X.mg "list" = none) (ha : SP X a f1) (he : starEach [a] X.env = (false, eval a X.env) :: starEach [] X.env := by rfl) : SE X (.Call (.Name "list" p) [a] [] pos) (fCl lstD (aCons f1 aNil)) := se_clT call_list_of ok_lst hg hm bt_list (sps_cons ha sps_nil he) (by decide) (by decide) he

theorem sz_gj {i : Int} (hg : Gl X x) (hm : ∃ t, X.mg x = some (.int i t)) (hd : (x == ("__debug__" : Str)) = false := by decide) : SZ X (.Name x pos) (fC (.int i)) := hm.elim fun _ h => sz_gi hg h hd
/-! names by their slots -/
theorem nP (i : Nat) (hN : X.N[i]? = some x) (hv : Vis X.env.scope x) (hd : (x == ("__debug__" : Str)) = false := by decide) (hcd : (x == ("__classdict__" : Str)) = false := by decide) : SP X (.Name x pos) (fPk i) := sp_pk (pe_var hN hv hd hcd)
theorem nZ (i : Nat) (hN : X.N[i]? = some x) (hv : Vis X.env.scope x) (hd : (x == ("__debug__" : Str)) = false := by decide) (hcd : (x == ("__classdict__" : Str)) = false := by decide) : SZ X (.Name x pos) (fVar i) := sz_var (pe_var hN hv hd hcd)
theorem nM (i : Nat) (hN : X.N[i]? = some x) (hv : Vis X.env.scope x) (hd : (x == ("__debug__" : Str)) = false := by decide) (hcd : (x == ("__classdict__" : Str)) = false := by decide) : SE X (.Name x pos) (fMv i) := se_mv (pe_var hN hv hd hcd)
end
/-! defs of the text -/
section
variable {P : Program} {w : World} {K : PySem.W.Frag} {mg : Str → Option Value} {base : Heap}
def Df (K : PySem.W.Frag) (mg : Str → Option Value) (x : Str) (sd : Stmt) : Prop := ∃ f fd, Fun K x x sd f fd ∧ mg x = some (.ref f)
def Cal (P : Program) (w : World) (K : PySem.W.Frag) (mg : Str → Option Value) (base : Heap) (x : Str) (sd : Stmt) (k : Nat) (ps : List Str) (m : FS) : Prop :=
  ∃ f fd, Fun K x x sd f fd ∧ mg x = some (.ref f) ∧ Binds K fd ps [] ∧ FnG P w K mg base k f fd ps (spM K m)
theorem Cal.up {x : Str} {sd : Stmt} {j k : Nat} {ps : List Str} {m : FS} (c : Cal P w K mg base x sd j ps m) (h : j ≤ k) : Cal P w K mg base x sd k ps m := by
  obtain ⟨f, fd, F, e, b, G⟩ := c
  exact ⟨f, fd, F, e, b, G.up h⟩
def BindP (x : Str) (sd : Stmt) (ps : List Str) : Prop := ∀ (kV doc pm : Value) (an : Option Addr) (cdv ct : Value) (us : List Value), us.length = ps.length → bindArgs (PySem.W.fnOf x x (defArgs sd) (defBody sd) (defScope sd) .none kV doc pm an cdv ct) ⟨us, []⟩ = pure (ps.zip us)
def BindK (x : Str) (sd : Stmt) (ps ks : List Str) (n : Nat) (is : List Nat) : Prop := ∀ (kV doc pm : Value) (an : Option Addr) (cdv ct : Value) (us ws : List Value), us.length = n → ws.length = ks.length → bindArgs (PySem.W.fnOf x x (defArgs sd) (defBody sd) (defScope sd) .none kV doc pm an cdv ct) ⟨us, ks.zip ws⟩ = pure (ps.zip (pmOf is us ws))
theorem cal_mk {x : Str} {sd : Stmt} {N ps : List Str} {k : Nat} {body : SS} (D : Df K mg x sd) (S : FnScope N ps (defScope sd)) (hb : BindP x sd ps) (hpn : ps.length ≤ N.length)
    (hbody : ∀ (f : Addr) (cdv : Value) (A : Around) (outer : List PySem.Env) (s : Shared) (H : Hp) (E : XK), A.guards = some [] → Room k (A.deeper (envOfC x (defScope sd) s.heap.objs.size f cdv)) → SSs (cxOf CX0 P w K mg base N x (defScope sd) f cdv A outer s H E).nox (defBody sd) body) :
    Cal P w K mg base x sd (k + 1) ps (mkFn N.length ps.length body) := by
  obtain ⟨f, fd, F, e⟩ := D
  exact ⟨f, fd, F, e, F.binds hb, fn_mk F S hpn (hbody f)⟩
/-- no promise -/
theorem cal_none {x : Str} {sd : Stmt} {ps : List Str} {k : Nat} (D : Df K mg x sd) (hb : BindP x sd ps) : Cal P w K mg base x sd k ps (fun _ _ => none) := by
  obtain ⟨f, fd, F, e⟩ := D
  refine ⟨f, fd, F, e, F.binds hb, fun vs H Q E h => ?_, fun A outer s H args us vs Q E _ _ _ _ _ h => ?_⟩
  · obtain ⟨C, M, st, ds, r, st', _, _, e, _⟩ := h
    cases e
  · obtain ⟨C, M, st, ds, r, st', _, _, e, _⟩ := h
    cases e
end
section
variable {X : Cx} {k j : Nat} {ps ks : List Str} {x : Str} {sd : Stmt} {p pos : Pos} {e : Expr} {es : List Expr} {kws : List Keyword} {m : FS} {fs fk : AS}
theorem cl (c : Cal X.prog X.w X.K X.mg X.base x sd j ps m) (hr : Room k X.A) (hj : j ≤ k) (hgd : X.A.guards = some []) (hg : Gl X x) (ha : SZs X (e :: es) fs)
    (hdb : (x == ("__debug__" : Str)) = false := by decide) (he : starEach (e :: es) X.env = (false, eval e X.env) :: starEach es X.env := by rfl) (hpl : (backTo pos (starEach es X.env)).any (·.1) = false := by rfl) :
    SE X (.Call (.Name x p) (e :: es) [] pos) (fCall m fs) := by
  obtain ⟨f, fd, F, em, b, G⟩ := c
  exact se_call G (hr.mono hj) hgd hg em F.kp b ha hdb he hpl
theorem kb_of {K : PySem.W.Frag} {f : Addr} {fd : FuncData} {n : Nat} {is : List Nat} (F : Fun K x x sd f fd) (h : BindK x sd ps ks n is) : KB K fd ps ks n (fun us ws => pmOf is us ws) := by
  obtain ⟨oc, od, kV, doc, pm, an, cdv, ct, osl, rfl, lk, hcd⟩ := F.ex
  exact kb_mk fun s us ws h1 h2 => .of_eq (h kV doc pm an cdv ct us ws h1 h2)
theorem clk {n nk : Nat} {is : List Nat} (c : Cal X.prog X.w X.K X.mg X.base x sd j ps m) (kb : BindK x sd ps ks n is) (hr : Room k X.A) (hj : j ≤ k) (hgd : X.A.guards = some []) (hg : Gl X x) (hn : ks.length = nk) (ha : SZs X (e :: es) fs) (hkw : SK X kws fk)
    (hall : (backToKw pos (keywordEach kws X.env)).all (·.1.isSome) = true := by rfl) (hks : (backToKw pos (keywordEach kws X.env)).filterMap (·.1) = ks := by rfl)
    (hdb : (x == ("__debug__" : Str)) = false := by decide) (he : starEach (e :: es) X.env = (false, eval e X.env) :: starEach es X.env := by rfl)
    (hpl : ((backTo pos (starEach (e :: es) X.env)).any (·.1) || (backToKw pos (keywordEach kws X.env)).any (·.1.isNone)) = false := by rfl) :
    SE X (.Call (.Name x p) (e :: es) kws pos) (fCallK m is n nk fs fk) := by
  obtain ⟨f, fd, F, em, b, G⟩ := c
  exact se_callK G (hr.mono hj) hgd hg em F.kp (kb_of F kb) hn ha hkw hall hks hdb he hpl
theorem clk0 {nk : Nat} {is : List Nat} (c : Cal X.prog X.w X.K X.mg X.base x sd j ps m) (kb : BindK x sd ps ks 0 is) (hr : Room k X.A) (hj : j ≤ k) (hgd : X.A.guards = some []) (hg : Gl X x) (hn : ks.length = nk) (hkw : SK X kws fk)
    (hall : (backToKw pos (keywordEach kws X.env)).all (·.1.isSome) = true := by rfl) (hks : (backToKw pos (keywordEach kws X.env)).filterMap (·.1) = ks := by rfl)
    (hdb : (x == ("__debug__" : Str)) = false := by decide)
    (hpl : ((backTo pos (starEach [] X.env)).any (·.1) || (backToKw pos (keywordEach kws X.env)).any (·.1.isNone)) = false := by rfl) :
    SE X (.Call (.Name x p) [] kws pos) (fCallK0 m is nk fk) := by
  obtain ⟨f, fd, F, em, b, G⟩ := c
  exact se_callK0 G (hr.mono hj) hgd hg em F.kp (kb_of F kb) hn hkw hall hks hdb hpl
end
/-- turns a while loop may take -/
def WH : Nat := 100000
section
variable {P : Program} {w : World} {K : PySem.W.Frag} {mg : Str → Option Value} {h : Heap} {x : Str} {sd : Stmt} {f fa : Addr} {k : Nat} {m : FS} {y : Str}
theorem df_mk {oc : Value} {od an : Option Addr} {osl : Array (Option Value)} {kV doc pm cdv ct : Value} (KX : K.In h) (G : h.Ns mainGlobals mg) (a : PySem.W.nsIn K mainGlobals x = some (some (.ref f))) (l : K.lookup f = some ⟨oc, od, .func (PySem.W.fnOf x x (defArgs sd) (defBody sd) (defScope sd) .none kV doc pm an cdv ct), osl⟩)
    (c : PySem.W.codeIn K cdv x = true) (kp : PySem.W.keepIn K (.ref f) = true) : Df K mg x sd := ⟨f, _, fun_mk l c kp, PySem.W.mg_of KX G a⟩
theorem gi_mk {v : Value} {i : Int} (KX : K.In h) (G : h.Ns mainGlobals mg) (a : PySem.W.nsIn K mainGlobals x = some (some v)) (e : ∃ t, v = .int i t) : ∃ t, mg x = some (.int i t) := by
  obtain ⟨t, rfl⟩ := e
  exact ⟨t, PySem.W.mg_of KX G a⟩
theorem law_end (hfa : mg x = some (.ref fa)) (D : Df K mg x sd) (hb : BindP x sd [y]) (C : ∀ base : Heap, K.In base → base.Ns mainGlobals mg → Cal P w K mg base x sd k [y] m) :
    ∃ fd : FuncData, (∀ (s : Shared) (u : Value), BindsTo s fd ⟨[u], []⟩ [(y, u)]) ∧ ∀ base : Heap, K.In base → base.Ns mainGlobals mg → FnG P w K mg base k fa fd [y] (spM K m) := by
  obtain ⟨f, fd, F, e⟩ := D
  have ef : f = fa := by
    rw [hfa] at e
    cases e
    rfl
  subst ef
  refine ⟨fd, fun s u => ?_, fun base hK hN => ?_⟩
  · obtain ⟨oc, od, kV, doc, pm, an, cdv, ct, osl, rfl, lk, hcd⟩ := F.ex
    exact .of_eq (hb kV doc pm an cdv ct [u] rfl)
  · obtain ⟨f2, fd2, F2, e2, _, G⟩ := C base hK hN
    have ef : f2 = f := by
      rw [e] at e2
      cases e2
      rfl
    subst ef
    have efd : fd2 = fd := by
      obtain ⟨oc, od, kV, doc, pm, an, cdv, ct, osl, r1, lk, hcd⟩ := F.ex
      obtain ⟨oc2, od2, kV2, doc2, pm2, an2, cdv2, ct2, osl2, r2, lk2, hcd2⟩ := F2.ex
      rw [lk] at lk2
      cases lk2
      rfl
    exact efd ▸ G
end
end Pv

/-! # PvW -/
set_option Elab.async false
set_option linter.all false
set_option maxHeartbeats 1000000
/-! the meanings, for the mathematics: weakest conditions by simp -/
namespace Pv
open PySem
def Wp {α : Type} (o : Option α) (Q : α → Prop) : Prop := ∃ x, o = some x ∧ Q x
section
variable {α β : Type} {Q : α → Prop} {R : β → Prop}
@[simp] theorem wp_some {x : α} : Wp (some x) Q ↔ Q x := ⟨fun ⟨y, e, h⟩ => by cases e; exact h, fun h => ⟨x, rfl, h⟩⟩
@[simp] theorem wp_none : Wp (none : Option α) Q ↔ False := ⟨fun ⟨y, e, h⟩ => (nomatch e), False.elim⟩
theorem wp_bind {o : Option β} {f : β → Option α} : Wp (o.bind f) Q ↔ Wp o fun x => Wp (f x) Q := by
  cases o with
  | none => simp
  | some x => simp
theorem wp_map' {o : Option β} {f : β → α} : Wp (o.map f) Q ↔ Wp o fun x => Q (f x) := by
  cases o with
  | none => simp
  | some x => simp
@[simp] theorem wp_ite {c : Prop} [Decidable c] {a b : Option α} : Wp (if c then a else b) Q ↔ if c then Wp a Q else Wp b Q := by split <;> rfl
theorem Wp.mono {o : Option α} {Q' : α → Prop} (h : Wp o Q) (i : ∀ x, Q x → Q' x) : Wp o Q' := h.elim fun x ⟨e, q⟩ => ⟨x, e, i x q⟩
theorem wp_eq {o : Option α} {x : α} : Wp o (fun y => y = x) ↔ o = some x := ⟨fun ⟨y, e, h⟩ => h ▸ e, fun h => ⟨x, h, rfl⟩⟩
end
section
variable {env : Env} {st : Ms} {f f1 f2 f3 : ES} {fs fk : AS} {t t1 t2 : BS} {i j c : Nat} {d a b : D} {m : FS} {w : WS} {gs : GS} {S S1 S2 : SS} {lo hi : OS}
@[simp] theorem wp_fC {Q : D × Env × Ms → Prop} : Wp (fC d env st) Q ↔ Q (d, env, st) := by unfold fC; simp
@[simp] theorem wp_fPk {Q : D × Env × Ms → Prop} : Wp (fPk i env st) Q ↔ ∃ d, env[i]? = some (some d) ∧ Q (d, env, st) := by
  unfold fPk
  split
  · rename_i d e
    simp [e]
  · rename_i h
    simp only [wp_none, false_iff]
    rintro ⟨d, e, _⟩
    exact h d e
@[simp] theorem wp_fVar {Q : D × Env × Ms → Prop} : Wp (fVar i env st) Q ↔ ∃ d, env[i]? = some (some d) ∧ Q (d.fz, env.set i (some d.fz), st) := by
  unfold fVar
  split
  · rename_i d e
    simp [e]
  · rename_i h
    simp only [wp_none, false_iff]
    rintro ⟨d, e, _⟩
    exact h d e
@[simp] theorem wp_fMv {Q : D × Env × Ms → Prop} : Wp (fMv i env st) Q ↔ ∃ d, env[i]? = some (some d) ∧ Q (d, env.set i none, st) := by
  unfold fMv
  split
  · rename_i d e
    simp [e]
  · rename_i h
    simp only [wp_none, false_iff]
    rintro ⟨d, e, _⟩
    exact h d e
@[simp] theorem wp_fZ {Q : D × Env × Ms → Prop} : Wp (fZ f env st) Q ↔ Wp (f env st) fun x => Q (x.1.fz, x.2) := by unfold fZ; rw [wp_map']
@[simp] theorem wp_fBin {g : Ms → D → D → Option D} {Q : D × Env × Ms → Prop} : Wp (fBin g f1 f2 env st) Q ↔ Wp (f1 env st) fun x => Wp (f2 x.2.1 x.2.2) fun y => Wp (g y.2.2 x.1 y.1) fun r => Q (r, y.2) := by unfold fBin; simp only [wp_bind, wp_map']
@[simp] theorem wp_fUn {g : Ms → D → Option D} {Q : D × Env × Ms → Prop} : Wp (fUn g f1 env st) Q ↔ Wp (f1 env st) fun x => Wp (g x.2.2 x.1) fun r => Q (r, x.2) := by unfold fUn; simp only [wp_bind, wp_map']
@[simp] theorem wp_aNil {Q : List D × Env × Ms → Prop} : Wp (aNil env st) Q ↔ Q ([], env, st) := by unfold aNil; simp
@[simp] theorem wp_aCons {Q : List D × Env × Ms → Prop} : Wp (aCons f fs env st) Q ↔ Wp (f env st) fun x => Wp (fs x.2.1 x.2.2) fun y => Q (x.1 :: y.1, y.2) := by unfold aCons; simp only [wp_bind, wp_map']
@[simp] theorem wp_fTup {Q : D × Env × Ms → Prop} : Wp (fTup fs env st) Q ↔ Wp (fs env st) fun x => x.1.length ≤ BIG ∧ Q (.tup x.1, x.2) := by
  unfold fTup
  rw [wp_bind]
  refine ⟨fun h => h.mono fun x q => ?_, fun h => h.mono fun x q => ?_⟩
  · by_cases e : x.1.length ≤ BIG
    · rw [if_pos e] at q; exact ⟨e, by simpa using q⟩
    · rw [if_neg e] at q; simp at q
  · rw [if_pos q.1]; simpa using q.2
@[simp] theorem wp_fLst {Q : D × Env × Ms → Prop} : Wp (fLst fs env st) Q ↔ Wp (fs env st) fun x => x.1.length ≤ BIG ∧ Q (.own x.1, x.2) := by
  unfold fLst
  rw [wp_bind]
  refine ⟨fun h => h.mono fun x q => ?_, fun h => h.mono fun x q => ?_⟩
  · by_cases e : x.1.length ≤ BIG
    · rw [if_pos e] at q; exact ⟨e, by simpa using q⟩
    · rw [if_neg e] at q; simp at q
  · rw [if_pos q.1]; simpa using q.2
@[simp] theorem wp_fCl {g : Ms → List D → Option D} {Q : D × Env × Ms → Prop} : Wp (fCl g fs env st) Q ↔ Wp (fs env st) fun x => Wp (g x.2.2 x.1) fun r => Q (r, x.2) := by unfold fCl; simp only [wp_bind, wp_map']
/-- a value that is a truth -/
@[simp] theorem wp_fB {Q : Bool × Env × Ms → Prop} : Wp (fB f env st) Q ↔ Wp (f env st) fun x => ∃ b, x.1 = .bl b ∧ Q (b, x.2) := by
  unfold fB
  rw [wp_bind]
  refine ⟨fun h => h.mono fun x q => ?_, fun h => h.mono fun x q => ?_⟩
  · split at q
    · rename_i b e; exact ⟨b, e, by simpa using q⟩
    · simp at q
  · obtain ⟨b, e, q⟩ := q
    rw [e]; simpa using q
@[simp] theorem wp_bYes {Q : Bool × Env × Ms → Prop} : Wp (bYes env st) Q ↔ Q (true, env, st) := by unfold bYes; simp
@[simp] theorem wp_bAnd {Q : Bool × Env × Ms → Prop} : Wp (bAnd t1 t2 env st) Q ↔ Wp (t1 env st) fun x => if x.1 = true then Wp (t2 x.2.1 x.2.2) Q else Q (false, x.2) := by unfold bAnd; simp only [wp_bind, wp_ite, wp_some]
@[simp] theorem wp_bOr {Q : Bool × Env × Ms → Prop} : Wp (bOr t1 t2 env st) Q ↔ Wp (t1 env st) fun x => if x.1 = true then Q (true, x.2) else Wp (t2 x.2.1 x.2.2) Q := by unfold bOr; simp only [wp_bind, wp_ite, wp_some]
@[simp] theorem wp_bNot {Q : Bool × Env × Ms → Prop} : Wp (bNot t1 env st) Q ↔ Wp (t1 env st) fun x => Q (!x.1, x.2) := by unfold bNot; simp only [wp_map']
@[simp] theorem wp_fAnd {Q : D × Env × Ms → Prop} : Wp (fAnd f1 f2 env st) Q ↔ Wp (f1 env st) fun x => ∃ b, x.1 = .bl b ∧ if b = true then Wp (f2 x.2.1 x.2.2) Q else Q (.bl false, x.2) := by
  unfold fAnd
  rw [wp_bind]
  refine ⟨fun h => h.mono fun x q => ?_, fun h => h.mono fun x q => ?_⟩
  · split at q
    · rename_i e; exact ⟨true, e, by simpa using q⟩
    · rename_i e; exact ⟨false, e, by simpa using q⟩
    · simp at q
  · obtain ⟨b, e, q⟩ := q
    rw [e]; cases b <;> simpa using q
@[simp] theorem wp_fOr {Q : D × Env × Ms → Prop} : Wp (fOr f1 f2 env st) Q ↔ Wp (f1 env st) fun x => ∃ b, x.1 = .bl b ∧ if b = true then Q (.bl true, x.2) else Wp (f2 x.2.1 x.2.2) Q := by
  unfold fOr
  rw [wp_bind]
  refine ⟨fun h => h.mono fun x q => ?_, fun h => h.mono fun x q => ?_⟩
  · split at q
    · rename_i e; exact ⟨true, e, by simpa using q⟩
    · rename_i e; exact ⟨false, e, by simpa using q⟩
    · simp at q
  · obtain ⟨b, e, q⟩ := q
    rw [e]; cases b <;> simpa using q
@[simp] theorem wp_fNot {Q : D × Env × Ms → Prop} : Wp (fNot f1 env st) Q ↔ Wp (f1 env st) fun x => ∃ b, x.1 = .bl b ∧ Q (.bl (!b), x.2) := by
  unfold fNot
  rw [wp_bind]
  refine ⟨fun h => h.mono fun x q => ?_, fun h => h.mono fun x q => ?_⟩
  · split at q
    · rename_i b e; exact ⟨b, e, by simpa using q⟩
    · simp at q
  · obtain ⟨b, e, q⟩ := q
    rw [e]; simpa using q
@[simp] theorem wp_fChain {g g' : Ms → D → D → Option D} {Q : D × Env × Ms → Prop} : Wp (fChain g g' f1 f2 f3 env st) Q ↔ Wp (f1 env st) fun x => Wp (f2 x.2.1 x.2.2) fun y => Wp (g y.2.2 x.1 y.1) fun z => ∃ b, z = .bl b ∧ if b = true then Wp (f3 y.2.1 y.2.2) fun w => Wp (g' w.2.2 y.1 w.1) fun r => Q (r, w.2) else Q (.bl false, y.2) := by
  unfold fChain
  rw [wp_bind]
  refine ⟨fun h => h.mono fun x q => ?_, fun h => h.mono fun x q => ?_⟩
  · rw [wp_bind] at q
    refine q.mono fun y q => ?_
    rw [wp_bind] at q
    refine q.mono fun z q => ?_
    split at q
    · exact ⟨true, rfl, by simpa only [wp_bind, wp_map', if_true] using q⟩
    · exact ⟨false, rfl, by simpa using q⟩
    · simp at q
  · rw [wp_bind]
    refine q.mono fun y q => ?_
    rw [wp_bind]
    refine q.mono fun z q => ?_
    obtain ⟨b, e, q⟩ := q
    rw [e]
    cases b
    · simpa using q
    · simpa only [wp_bind, wp_map', if_true] using q
@[simp] theorem wp_fIf {Q : D × Env × Ms → Prop} : Wp (fIf t f1 f2 env st) Q ↔ Wp (t env st) fun x => if x.1 = true then Wp (f1 x.2.1 x.2.2) Q else Wp (f2 x.2.1 x.2.2) Q := by unfold fIf; simp only [wp_bind, wp_ite]
@[simp] theorem wp_fIsa {T : String} {Q : D × Env × Ms → Prop} : Wp (fIsa T f env st) Q ↔ Wp (f env st) fun x => Q (.bl (isaB T x.1), x.2) := by unfold fIsa; simp only [wp_map']
@[simp] theorem wp_fCall {Q : D × Env × Ms → Prop} : Wp (fCall m fs env st) Q ↔ Wp (fs env st) fun x => Wp (m x.1 x.2.2) fun y => Q (y.1, x.2.1, y.2) := by unfold fCall; simp only [wp_bind, wp_map']
@[simp] theorem wp_fCallK0 {is : List Nat} {nk : Nat} {Q : D × Env × Ms → Prop} : Wp (fCallK0 m is nk fk env st) Q ↔ Wp (fk env st) fun x => x.1.length = nk ∧ Wp (m (pmOf is [] x.1) x.2.2) fun y => Q (y.1, x.2.1, y.2) := by
  unfold fCallK0
  rw [wp_bind]
  refine ⟨fun h => h.mono fun x q => ?_, fun h => h.mono fun x q => ?_⟩
  · by_cases e : x.1.length = nk
    · rw [if_pos e, wp_map'] at q; exact ⟨e, q⟩
    · rw [if_neg e] at q; simp at q
  · rw [if_pos q.1, wp_map']; exact q.2
@[simp] theorem wp_fCallK {is : List Nat} {n nk : Nat} {Q : D × Env × Ms → Prop} : Wp (fCallK m is n nk fs fk env st) Q ↔ Wp (fs env st) fun x => Wp (fk x.2.1 x.2.2) fun y => (x.1.length = n ∧ y.1.length = nk) ∧ Wp (m (pmOf is x.1 y.1) y.2.2) fun z => Q (z.1, y.2.1, z.2) := by
  unfold fCallK
  rw [wp_bind]
  refine ⟨fun h => h.mono fun x q => ?_, fun h => h.mono fun x q => ?_⟩
  · rw [wp_bind] at q
    refine q.mono fun y q => ?_
    by_cases e : x.1.length = n ∧ y.1.length = nk
    · rw [if_pos e, wp_map'] at q; exact ⟨e, q⟩
    · rw [if_neg e] at q; simp at q
  · rw [wp_bind]
    refine q.mono fun y q => ?_
    rw [if_pos q.1, wp_map']; exact q.2
@[simp] theorem wp_oNo {Q : Option Int × Env × Ms → Prop} : Wp (oNo env st) Q ↔ Q (none, env, st) := by unfold oNo; simp
@[simp] theorem wp_oE {Q : Option Int × Env × Ms → Prop} : Wp (oE f env st) Q ↔ Wp (f env st) fun x => ∃ i, x.1 = .int i ∧ Q (some i, x.2) := by
  unfold oE
  rw [wp_bind]
  refine ⟨fun h => h.mono fun x q => ?_, fun h => h.mono fun x q => ?_⟩
  · split at q
    · rename_i b e; exact ⟨b, e, by simpa using q⟩
    · simp at q
  · obtain ⟨b, e, q⟩ := q
    rw [e]; simpa using q
@[simp] theorem wp_fSl {Q : D × Env × Ms → Prop} : Wp (fSl f lo hi env st) Q ↔ Wp (f env st) fun x => Wp (lo x.2.1 x.2.2) fun y => Wp (hi y.2.1 y.2.2) fun z => Wp (slD x.1 y.1 z.1) fun r => Q (r, z.2) := by unfold fSl; simp only [wp_bind, wp_map']
@[simp] theorem wp_fLrg1 {Q : D × Env × Ms → Prop} : Wp (fLrg1 f env st) Q ↔ Wp (f env st) fun x => ∃ n, x.1 = .int n ∧ okR n = true ∧ Q (.own (rgD 0 n), x.2) := by
  unfold fLrg1
  rw [wp_bind]
  refine ⟨fun h => h.mono fun x q => ?_, fun h => h.mono fun x q => ?_⟩
  · split at q
    · rename_i n e
      by_cases k : okR n = true
      · rw [if_pos k] at q; exact ⟨n, e, k, by simpa using q⟩
      · rw [if_neg k] at q; simp at q
    · simp at q
  · obtain ⟨n, e, k, q⟩ := q
    rw [e]; simp [k, q]
/-! statements -/
@[simp] theorem wp_sNil {Q : Fl → Prop} : Wp (sNil env st) Q ↔ Q (.nx env st) := by unfold sNil; simp
@[simp] theorem wp_sPass {Q : Fl → Prop} : Wp (sPass env st) Q ↔ Q (.nx env st) := by unfold sPass; simp
@[simp] theorem wp_sNo {Q : Fl → Prop} : Wp (sNo env st) Q ↔ False := by unfold sNo; simp
/-- what comes after -/
def Aft (S : SS) (Q : Fl → Prop) : Fl → Prop
  | .nx env st => Wp (S env st) Q
  | r => Q r
@[simp] theorem aft_nx {Q : Fl → Prop} : Aft S Q (.nx env st) ↔ Wp (S env st) Q := Iff.rfl
@[simp] theorem aft_rt {Q : Fl → Prop} : Aft S Q (.rt d st) ↔ Q (.rt d st) := Iff.rfl
@[simp] theorem aft_bk {Q : Fl → Prop} : Aft S Q (.bk env st) ↔ Q (.bk env st) := Iff.rfl
@[simp] theorem aft_ct {Q : Fl → Prop} : Aft S Q (.ct env st) ↔ Q (.ct env st) := Iff.rfl
@[simp] theorem wp_sSeq {Q : Fl → Prop} : Wp (sSeq S1 S2 env st) Q ↔ Wp (S1 env st) (Aft S2 Q) := by
  unfold sSeq
  rw [wp_bind]
  refine ⟨fun h => h.mono fun x q => ?_, fun h => h.mono fun x q => ?_⟩
  · cases x <;> simpa using q
  · cases x <;> simpa using q
@[simp] theorem wp_sDrop {Q : Fl → Prop} : Wp (sDrop f env st) Q ↔ Wp (f env st) fun x => Q (.nx x.2.1 x.2.2) := by unfold sDrop; simp only [wp_map']
@[simp] theorem wp_sRet {Q : Fl → Prop} : Wp (sRet f env st) Q ↔ Wp (f env st) fun x => Q (.rt x.1 x.2.2) := by unfold sRet; simp only [wp_map']
@[simp] theorem wp_sIf {Q : Fl → Prop} : Wp (sIf t S1 S2 env st) Q ↔ Wp (t env st) fun x => if x.1 = true then Wp (S1 x.2.1 x.2.2) Q else Wp (S2 x.2.1 x.2.2) Q := by unfold sIf; simp only [wp_bind, wp_ite]
@[simp] theorem wp_sAsg {Q : Fl → Prop} : Wp (sAsg i f env st) Q ↔ Wp (f env st) fun x => i < x.2.1.length ∧ Q (.nx (x.2.1.set i (some x.1)) x.2.2) := by
  unfold sAsg
  rw [wp_bind]
  refine ⟨fun h => h.mono fun x q => ?_, fun h => h.mono fun x q => ?_⟩
  · by_cases e : i < x.2.1.length
    · rw [if_pos e] at q; exact ⟨e, by simpa using q⟩
    · rw [if_neg e] at q; simp at q
  · rw [if_pos q.1]; simpa using q.2
@[simp] theorem wp_sApp {Q : Fl → Prop} : Wp (sApp i f env st) Q ↔ (∃ l, env[i]? = some (some (.own l))) ∧ Wp (f env st) fun x => ∃ l, x.2.1[i]? = some (some (.own l)) ∧ l.length < BIG ∧ Q (.nx (x.2.1.set i (some (.own (l ++ [x.1])))) x.2.2) := by
  unfold sApp
  split
  · rename_i l e
    rw [wp_bind]
    simp only [e, Option.some.injEq, D.own.injEq, exists_eq', true_and]
    refine ⟨fun h => h.mono fun x q => ?_, fun h => h.mono fun x q => ?_⟩
    · split at q
      · rename_i l e
        by_cases k : l.length < BIG
        · rw [if_pos k] at q; exact ⟨l, e, k, by simpa using q⟩
        · rw [if_neg k] at q; simp at q
      · simp at q
    · obtain ⟨l, e, k, q⟩ := q
      rw [e]; simp [k, q]
  · rename_i h
    simp only [wp_none, false_iff]
    rintro ⟨⟨l, e⟩, _⟩
    exact h l e
@[simp] theorem wp_sExt {Q : Fl → Prop} : Wp (sExt i f env st) Q ↔ (∃ l, env[i]? = some (some (.own l))) ∧ Wp (f env st) fun x => ∃ l m, x.2.1[i]? = some (some (.own l)) ∧ x.1 = .lst m ∧ l.length + m.length ≤ BIG ∧ Q (.nx (x.2.1.set i (some (.own (l ++ m)))) x.2.2) := by
  unfold sExt
  split
  · rename_i l e
    rw [wp_bind]
    simp only [e, Option.some.injEq, D.own.injEq, exists_eq', true_and]
    refine ⟨fun h => h.mono fun x q => ?_, fun h => h.mono fun x q => ?_⟩
    · split at q
      · rename_i l m e e2
        by_cases k : l.length + m.length ≤ BIG
        · rw [if_pos k] at q; exact ⟨l, m, e, e2, k, by simpa using q⟩
        · rw [if_neg k] at q; simp at q
      · simp at q
    · obtain ⟨l, m, e, e2, k, q⟩ := q
      rw [e, e2]; simp [k, q]
  · rename_i h
    simp only [wp_none, false_iff]
    rintro ⟨⟨l, e⟩, _⟩
    exact h l e
@[simp] theorem wp_sAug {g : Int → Int → Int} {Q : Fl → Prop} : Wp (sAug i g f env st) Q ↔ ∃ a, env[i]? = some (some (.int a)) ∧ Wp (f env st) fun x => ∃ b, x.1 = .int b ∧ i < x.2.1.length ∧ Q (.nx (x.2.1.set i (some (.int (g a b)))) x.2.2) := by
  unfold sAug
  split
  · rename_i a e
    rw [wp_bind]
    simp only [e, Option.some.injEq, D.int.injEq, exists_eq_left']
    refine ⟨fun h => h.mono fun x q => ?_, fun h => h.mono fun x q => ?_⟩
    · split at q
      · rename_i b e
        by_cases k : i < x.2.1.length
        · rw [if_pos k] at q; exact ⟨b, e, k, by simpa using q⟩
        · rw [if_neg k] at q; simp at q
      · simp at q
    · obtain ⟨b, e, k, q⟩ := q
      rw [e]; simp [k, q]
  · rename_i h
    simp only [wp_none, false_iff]
    rintro ⟨a, e, _⟩
    exact h a e
@[simp] theorem wp_sSetC {Q : Fl → Prop} : Wp (sSetC i f1 f env st) Q ↔ Wp (f env st) fun x => ∃ c, x.2.1[i]? = some (some (.cell c)) ∧ Wp (f1 x.2.1 x.2.2) fun y => Wp (setCell c x.1 y.1 y.2.1 y.2.2) Q := by
  unfold sSetC
  rw [wp_bind]
  refine ⟨fun h => h.mono fun x q => ?_, fun h => h.mono fun x q => ?_⟩
  · split at q
    · rename_i c e
      exact ⟨c, e, by simpa only [wp_bind] using q⟩
    · simp at q
  · obtain ⟨c, e, q⟩ := q
    rw [e]; simpa only [wp_bind] using q
@[simp] theorem wp_sCell {Q : Fl → Prop} : Wp (sCell i f env st) Q ↔ Wp (f env st) fun x => ∃ l, x.1 = .own l ∧ (i < x.2.1.length ∧ D.ncs (D.fzs l) = true) ∧ Q (.nx (x.2.1.set i (some (.cell x.2.2.length))) (x.2.2 ++ [D.fzs l])) := by
  unfold sCell
  rw [wp_bind]
  refine ⟨fun h => h.mono fun x q => ?_, fun h => h.mono fun x q => ?_⟩
  · split at q
    · rename_i l e
      by_cases k : i < x.2.1.length ∧ D.ncs (D.fzs l) = true
      · rw [if_pos k] at q; exact ⟨l, e, k, by simpa using q⟩
      · rw [if_neg k] at q; simp at q
    · simp at q
  · obtain ⟨l, e, k, q⟩ := q
    rw [e]; simp [k, q]
@[simp] theorem wp_sUnp {is : List Nat} {Q : Fl → Prop} : Wp (sUnp is f env st) Q ↔ Wp (f env st) fun x => ∃ l, x.1 = .tup l ∧ l.length = is.length ∧ Wp (setAll is l x.2.1) fun e => Q (.nx e x.2.2) := by
  unfold sUnp
  rw [wp_bind]
  refine ⟨fun h => h.mono fun x q => ?_, fun h => h.mono fun x q => ?_⟩
  · split at q
    · rename_i l e
      by_cases k : l.length = is.length
      · rw [if_pos k, wp_map'] at q; exact ⟨l, e, k, q⟩
      · rw [if_neg k] at q; simp at q
    · simp at q
  · obtain ⟨l, e, k, q⟩ := q
    rw [e]; simp only [k, if_true, wp_map']; exact q
@[simp] theorem wp_sPar {Q : Fl → Prop} : Wp (sPar i j fs env st) Q ↔ Wp (fs env st) fun x => ∃ a b, x.1 = [a, b] ∧ Wp (setAll [i, j] [a, b] x.2.1) fun e => Q (.nx e x.2.2) := by
  unfold sPar
  rw [wp_bind]
  refine ⟨fun h => h.mono fun x q => ?_, fun h => h.mono fun x q => ?_⟩
  · split at q
    · rename_i a b e
      rw [wp_map'] at q; exact ⟨a, b, e, q⟩
    · simp at q
  · obtain ⟨a, b, e, q⟩ := q
    rw [e]; simp only [wp_map']; exact q
@[simp] theorem setAll_nil : setAll [] [] env = some env := rfl
@[simp] theorem setAll_cons {is : List Nat} {ds : List D} : setAll (i :: is) (d :: ds) env = if i < env.length then setAll is ds (env.set i (some d)) else none := rfl
/-! walks -/
@[simp] theorem wp_wSeq {Q : List D × Env × Ms → Prop} : Wp (wSeq f env st) Q ↔ Wp (f env st) fun x => (∃ l, x.1 = .lst l ∧ Q (l, x.2)) ∨ (∃ l, x.1 = .scr l ∧ Q (l.map D.int, x.2)) ∨ (∃ l, x.1 = .tup l ∧ Q (l, x.2)) := by
  unfold wSeq
  rw [wp_bind]
  refine ⟨fun h => h.mono fun x q => ?_, fun h => h.mono fun x q => ?_⟩
  · split at q
    · rename_i l e; exact .inl ⟨l, e, by simpa using q⟩
    · rename_i l e; exact .inr (.inl ⟨l, e, by simpa using q⟩)
    · rename_i l e; exact .inr (.inr ⟨l, e, by simpa using q⟩)
    · simp at q
  · rcases q with ⟨l, e, q⟩ | ⟨l, e, q⟩ | ⟨l, e, q⟩ <;> rw [e] <;> simpa using q
@[simp] theorem wp_wRng1 {Q : List D × Env × Ms → Prop} : Wp (wRng1 fs env st) Q ↔ Wp (fs env st) fun x => ∃ n, x.1 = [.int n] ∧ okR n = true ∧ Q (steps 0 1 n.toNat, x.2) := by
  unfold wRng1
  rw [wp_bind]
  refine ⟨fun h => h.mono fun x q => ?_, fun h => h.mono fun x q => ?_⟩
  · split at q
    · rename_i n e
      by_cases k : okR n = true
      · rw [if_pos k] at q; exact ⟨n, e, k, by simpa using q⟩
      · rw [if_neg k] at q; simp at q
    · simp at q
  · obtain ⟨n, e, k, q⟩ := q
    rw [e]; simp [k, q]
@[simp] theorem wp_wRng2 {Q : List D × Env × Ms → Prop} : Wp (wRng2 fs env st) Q ↔ Wp (fs env st) fun x => ∃ m n, x.1 = [.int m, .int n] ∧ (okR m = true ∧ okR n = true) ∧ Q (steps m 1 (n - m).toNat, x.2) := by
  unfold wRng2
  rw [wp_bind]
  refine ⟨fun h => h.mono fun x q => ?_, fun h => h.mono fun x q => ?_⟩
  · split at q
    · rename_i m n e
      by_cases k : okR m = true ∧ okR n = true
      · rw [if_pos k] at q; exact ⟨m, n, e, k, by simpa using q⟩
      · rw [if_neg k] at q; simp at q
    · simp at q
  · obtain ⟨m, n, e, k, q⟩ := q
    rw [e]; simp [k, q]
@[simp] theorem wp_wRng3 {Q : List D × Env × Ms → Prop} : Wp (wRng3 fs env st) Q ↔ Wp (fs env st) fun x => ∃ m n k, x.1 = [.int m, .int n, .int k] ∧ (okR m = true ∧ okR n = true ∧ k = -1) ∧ Q (steps m (-1) (m - n).toNat, x.2) := by
  unfold wRng3
  rw [wp_bind]
  refine ⟨fun h => h.mono fun x q => ?_, fun h => h.mono fun x q => ?_⟩
  · split at q
    · rename_i m n k e
      by_cases c : okR m = true ∧ okR n = true ∧ k = -1
      · rw [if_pos c] at q; exact ⟨m, n, k, e, c, by simpa using q⟩
      · rw [if_neg c] at q; simp at q
    · simp at q
  · obtain ⟨m, n, k, e, c, q⟩ := q
    rw [e]; simp only [c, and_self, if_true, wp_some]; exact q
@[simp] theorem wp_wZip {Q : List D × Env × Ms → Prop} : Wp (wZip fs env st) Q ↔ Wp (fs env st) fun x => (∃ l m, x.1 = [.tup l, .tup m] ∧ Q (zipD l m, x.2)) ∨ (∃ l m, x.1 = [.lst l, .lst m] ∧ Q (zipD l m, x.2)) := by
  unfold wZip
  rw [wp_bind]
  refine ⟨fun h => h.mono fun x q => ?_, fun h => h.mono fun x q => ?_⟩
  · split at q
    · rename_i l m e; exact .inl ⟨l, m, e, by simpa using q⟩
    · rename_i l m e; exact .inr ⟨l, m, e, by simpa using q⟩
    · simp at q
  · rcases q with ⟨l, m, e, q⟩ | ⟨l, m, e, q⟩ <;> rw [e] <;> simpa using q
@[simp] theorem wp_wEnum {Q : List D × Env × Ms → Prop} : Wp (wEnum fs env st) Q ↔ Wp (fs env st) fun x => (∃ l, x.1 = [.tup l] ∧ Q (enumD 0 l, x.2)) ∨ (∃ l, x.1 = [.lst l] ∧ Q (enumD 0 l, x.2)) := by
  unfold wEnum
  rw [wp_bind]
  refine ⟨fun h => h.mono fun x q => ?_, fun h => h.mono fun x q => ?_⟩
  · split at q
    · rename_i l e; exact .inl ⟨l, e, by simpa using q⟩
    · rename_i l e; exact .inr ⟨l, e, by simpa using q⟩
    · simp at q
  · rcases q with ⟨l, e, q⟩ | ⟨l, e, q⟩ <;> rw [e] <;> simpa using q
/-! targets -/
@[simp] theorem gN_ev : gN i d env = if i < env.length then some (env.set i (some d)) else none := rfl
@[simp] theorem gNilS_ev : gNilS [] env = some env := rfl
@[simp] theorem gConsS_ev {g : GS} {gss : List D → Env → Option Env} {ds : List D} : gConsS g gss (d :: ds) env = (g d env).bind fun e => gss ds e := rfl
@[simp] theorem gTupS_ev {gss : List D → Env → Option Env} {n : Nat} {ds : List D} : gTupS gss n (.tup ds) env = if ds.length = n then gss ds env else none := rfl
/-! loops -/
theorem wp_sFor {Q : Fl → Prop} : Wp (sFor w gs S env st) Q ↔ Wp (w env st) fun x => Wp (forF gs S x.1 x.2.1 x.2.2) Q := by unfold sFor; simp only [wp_bind]
/-- a loop that goes through: I by what has been walked -/
theorem wp_for {α : Type} {Q : Fl → Prop} (xs : List α) (g : α → D) (I : List α → Env → Ms → Prop) (h0 : I [] env st)
    (h : ∀ pre x post env st, xs = pre ++ x :: post → I pre env st → Wp (gs (g x) env) fun e => Wp (S e st) fun r => match r with
      | .nx e2 st2 => I (pre ++ [x]) e2 st2
      | .ct e2 st2 => I (pre ++ [x]) e2 st2
      | _ => False)
    (q : ∀ env st, I xs env st → Q (.nx env st)) : Wp (forF gs S (xs.map g) env st) Q := by
  have : ∀ (post pre : List α) (env : Env) (st : Ms), xs = pre ++ post → I pre env st → Wp (forF gs S (post.map g) env st) Q := by
    intro post
    induction post with
    | nil =>
      intro pre env st e i
      rw [List.append_nil] at e
      subst e
      exact ⟨_, rfl, q _ _ i⟩
    | cons x post ih =>
      intro pre env st e i
      show Wp ((gs (g x) env).bind fun env1 => (S env1 st).bind fun r => match r with
        | .nx env2 st2 => forF gs S (post.map g) env2 st2
        | .ct env2 st2 => forF gs S (post.map g) env2 st2
        | .bk env2 st2 => some (.nx env2 st2)
        | .rt d st2 => some (.rt d st2)) Q
      rw [wp_bind]
      refine (h pre x post env st e i).mono fun e1 q1 => ?_
      rw [wp_bind]
      refine q1.mono fun r q2 => ?_
      have e' : xs = (pre ++ [x]) ++ post := by rw [e, List.append_assoc]; rfl
      cases r with
      | nx e2 st2 => exact ih _ _ _ e' q2
      | ct e2 st2 => exact ih _ _ _ e' q2
      | bk e2 st2 => exact q2.elim
      | rt d st2 => exact q2.elim
  exact this xs [] env st rfl h0
/-! comprehensions -/
theorem wp_fComp {vs : List Nat} {Q : D × Env × Ms → Prop} : Wp (fComp w gs t f vs env st) Q ↔ Wp (w env st) fun x => okAt x.2.1 vs = true ∧ Wp (compF gs t f vs x.1 (wipeE x.2.1 vs) x.2.2) fun z => z.1.length ≤ BIG ∧ Q (.own z.1, restE x.2.1 z.2.1 vs, z.2.2) := by
  unfold fComp
  rw [wp_bind]
  refine ⟨fun h => h.mono fun x q => ?_, fun h => h.mono fun x q => ?_⟩
  · by_cases k : okAt x.2.1 vs = true
    · rw [if_pos k, wp_bind] at q
      refine ⟨k, q.mono fun z q => ?_⟩
      by_cases l : z.1.length ≤ BIG
      · rw [if_pos l] at q; exact ⟨l, by simpa using q⟩
      · rw [if_neg l] at q; simp at q
    · rw [if_neg k] at q; simp at q
  · rw [if_pos q.1, wp_bind]
    refine q.2.mono fun z q => ?_
    rw [if_pos q.1]; simpa using q.2
/-- one that leaves the frame as it is, its length small -/
theorem wp_map {α : Type} {vs : List Nat} {Q : List D × Env × Ms → Prop} (xs : List α) (g : α → D) (b : α → Bool) (v : α → D)
    (h : ∀ x ∈ xs, Wp (gs (g x) env) fun e => Wp (t e st) fun y => y.1 = b x ∧ y.2.2 = st ∧ if b x = true then Wp (f y.2.1 st) fun z => z.1 = v x ∧ z.2.2 = st ∧ wipeE z.2.1 vs = env else wipeE y.2.1 vs = env)
    (q : Q ((xs.filter b).map v, env, st)) : Wp (compF gs t f vs (xs.map g) env st) Q := by
  suffices H : compF gs t f vs (xs.map g) env st = some ((xs.filter b).map v, env, st) from ⟨_, H, q⟩
  clear q
  induction xs with
  | nil => rfl
  | cons x xs ih =>
    have ih := ih fun y hy => h y (List.mem_cons_of_mem _ hy)
    obtain ⟨e, e1, ⟨b0, e2, s2⟩, e3, h1, h2, h3⟩ := h x List.mem_cons_self
    dsimp only at h1 h2 h3
    subst h1 h2
    show ((gs (g x) env).bind fun env1 => (t env1 s2).bind fun x => if x.1 = true then (f x.2.1 x.2.2).bind fun y => (compF gs t f vs (xs.map g) (wipeE y.2.1 vs) y.2.2).map fun z => (y.1 :: z.1, z.2) else compF gs t f vs (xs.map g) (wipeE x.2.1 vs) x.2.2) = _
    rw [e1]
    simp only [Option.bind_some]
    rw [e3]
    simp only [Option.bind_some]
    by_cases hb : b x = true
    · rw [if_pos hb] at h3 ⊢
      obtain ⟨⟨d, e4, s4⟩, e5, h4, h5, h6⟩ := h3
      dsimp only at h4 h5 h6
      subst h4 h5
      rw [e5]
      simp only [Option.bind_some]
      rw [h6, ih]
      simp [hb]
    · rw [if_neg hb] at h3 ⊢
      rw [h3, ih]
      simp [hb]
/-- one that keeps J of the state, its values R -/
theorem wp_keep {α : Type} {vs : List Nat} {Q : List D × Env × Ms → Prop} (xs : List α) (g : α → D) (J : Ms → Prop) (R : α → D → Prop) (h0 : J st)
    (h : ∀ x ∈ xs, ∀ st, J st → Wp (gs (g x) env) fun e => Wp (t e st) fun y => y.1 = true ∧ Wp (f y.2.1 y.2.2) fun z => R x z.1 ∧ J z.2.2 ∧ wipeE z.2.1 vs = env)
    (q : ∀ ds st, ds.length = xs.length → (∀ (i : Nat) (x : α) (d : D), xs[i]? = some x → ds[i]? = some d → R x d) → J st → Q (ds, env, st)) : Wp (compF gs t f vs (xs.map g) env st) Q := by
  induction xs generalizing st Q with
  | nil => exact ⟨_, rfl, q [] st rfl (fun i x d e => by simp at e) h0⟩
  | cons x xs ih =>
    show Wp ((gs (g x) env).bind fun env1 => (t env1 st).bind fun x => if x.1 = true then (f x.2.1 x.2.2).bind fun y => (compF gs t f vs (xs.map g) (wipeE y.2.1 vs) y.2.2).map fun z => (y.1 :: z.1, z.2) else compF gs t f vs (xs.map g) (wipeE x.2.1 vs) x.2.2) Q
    rw [wp_bind]
    refine (h x List.mem_cons_self st h0).mono fun e q1 => ?_
    rw [wp_bind]
    refine q1.mono fun y q2 => ?_
    rw [if_pos q2.1, wp_bind]
    refine q2.2.mono fun z q3 => ?_
    rw [wp_map', q3.2.2]
    refine ih q3.2.1 (fun y hy => h y (List.mem_cons_of_mem _ hy)) fun ds st' hl hr hj => ?_
    refine q (z.1 :: ds) st' (by simp [hl]) (fun i y d e1 e2 => ?_) hj
    cases i with
    | zero =>
      simp at e1 e2
      subst e1 e2
      exact q3.1
    | succ i => exact hr i y d (by simpa using e1) (by simpa using e2)
end
end Pv

/-! # PvX -/
set_option Elab.async false
set_option linter.all false
set_option maxHeartbeats 1000000
/-! the meanings of the words on given values -/
namespace Pv
open PySem
section
variable {env : Env} {st : Ms} {i j : Int} {d a b : D} {l m : List D} {s : Str}
@[simp] theorem fz_non : D.fz .non = .non := by simp only [D.fz]
@[simp] theorem fz_bl {b : Bool} : D.fz (.bl b) = .bl b := by simp only [D.fz]
@[simp] theorem fz_int : D.fz (.int i) = .int i := by simp only [D.fz]
@[simp] theorem fz_str : D.fz (.str s) = .str s := by simp only [D.fz]
@[simp] theorem fz_lst : D.fz (.lst l) = .lst l := by simp only [D.fz]
@[simp] theorem fz_cell {c : Nat} : D.fz (.cell c) = .cell c := by simp only [D.fz]
@[simp] theorem fz_scr {c : List Int} : D.fz (.scr c) = .scr c := by simp only [D.fz]
@[simp] theorem fz_own : D.fz (.own l) = .lst (D.fzs l) := by simp only [D.fz]
@[simp] theorem fz_tup : D.fz (.tup l) = .tup (D.fzs l) := by simp only [D.fz]
@[simp] theorem fzs_nil : D.fzs [] = [] := by simp only [D.fzs]
@[simp] theorem fzs_cons : D.fzs (d :: l) = d.fz :: D.fzs l := by simp only [D.fzs]
theorem fzs_eq : D.fzs l = l.map D.fz := by
  induction l with
  | nil => simp
  | cons d l ih => simp [ih]
@[simp] theorem fzs_app : D.fzs (l ++ m) = D.fzs l ++ D.fzs m := by simp [fzs_eq]
@[simp] theorem fzs_map {α : Type} {f : α → D} {xs : List α} : D.fzs (xs.map f) = xs.map fun x => (f x).fz := by rw [fzs_eq, List.map_map]; rfl
@[simp] theorem of_non : D.of .non = true := rfl
@[simp] theorem of_bl {b : Bool} : D.of (.bl b) = true := rfl
@[simp] theorem of_int : D.of (.int i) = true := rfl
@[simp] theorem of_str : D.of (.str s) = true := rfl
@[simp] theorem of_lst : D.of (.lst l) = true := rfl
@[simp] theorem of_own : D.of (.own l) = false := rfl
@[simp] theorem of_cell {c : Nat} : D.of (.cell c) = true := rfl
@[simp] theorem of_scr {c : List Int} : D.of (.scr c) = true := rfl
@[simp] theorem of_tup : D.of (.tup l) = D.ofs l := by simp only [D.of]
theorem ofs_eq : D.ofs l = l.all D.of := by
  induction l with
  | nil => simp [D.ofs]
  | cons d l ih => simp [D.ofs, ih]
@[simp] theorem ofs_nil : D.ofs [] = true := by simp [ofs_eq]
@[simp] theorem ofs_cons : D.ofs (d :: l) = (d.of && D.ofs l) := by simp [ofs_eq]
@[simp] theorem ofs_app : D.ofs (l ++ m) = (D.ofs l && D.ofs m) := by simp [ofs_eq]
@[simp] theorem ofs_map {α : Type} {f : α → D} {xs : List α} : D.ofs (xs.map f) = xs.all fun x => (f x).of := by rw [ofs_eq, List.all_map]; rfl
@[simp] theorem nc_non : D.nc .non = true := by simp only [D.nc]
@[simp] theorem nc_bl {b : Bool} : D.nc (.bl b) = true := by simp only [D.nc]
@[simp] theorem nc_int : D.nc (.int i) = true := by simp only [D.nc]
@[simp] theorem nc_str : D.nc (.str s) = true := by simp only [D.nc]
@[simp] theorem nc_scr {c : List Int} : D.nc (.scr c) = true := by simp only [D.nc]
@[simp] theorem nc_cell {c : Nat} : D.nc (.cell c) = false := by simp only [D.nc]
@[simp] theorem nc_lst : D.nc (.lst l) = D.ncs l := by simp only [D.nc]
@[simp] theorem nc_own : D.nc (.own l) = D.ncs l := by simp only [D.nc]
@[simp] theorem nc_tup : D.nc (.tup l) = D.ncs l := by simp only [D.nc]
theorem ncs_eq : D.ncs l = l.all D.nc := by
  induction l with
  | nil => simp [D.ncs]
  | cons d l ih => simp [D.ncs, ih]
@[simp] theorem ncs_nil : D.ncs [] = true := by simp [ncs_eq]
@[simp] theorem ncs_cons : D.ncs (d :: l) = (d.nc && D.ncs l) := by simp [ncs_eq]
@[simp] theorem ncs_map {α : Type} {f : α → D} {xs : List α} : D.ncs (xs.map f) = xs.all fun x => (f x).nc := by rw [ncs_eq, List.all_map]; rfl
@[simp] theorem pl_non : D.pl .non = true := by simp only [D.pl]
@[simp] theorem pl_bl {b : Bool} : D.pl (.bl b) = true := by simp only [D.pl]
@[simp] theorem pl_int : D.pl (.int i) = true := by simp only [D.pl]
@[simp] theorem pl_str : D.pl (.str s) = true := by simp only [D.pl]
@[simp] theorem pl_lst : D.pl (.lst l) = D.pls l := by simp only [D.pl]
@[simp] theorem pl_tup : D.pl (.tup l) = D.pls l := by simp only [D.pl]
theorem pls_eq : D.pls l = l.all D.pl := by
  induction l with
  | nil => simp [D.pls]
  | cons d l ih => simp [D.pls, ih]
@[simp] theorem pls_nil : D.pls [] = true := by simp [pls_eq]
@[simp] theorem pls_cons : D.pls (d :: l) = (d.pl && D.pls l) := by simp [pls_eq]
@[simp] theorem pls_map {α : Type} {f : α → D} {xs : List α} : D.pls (xs.map f) = xs.all fun x => (f x).pl := by rw [pls_eq, List.all_map]; rfl
@[simp] theorem py_non : D.py .non = .none := by simp only [D.py]
@[simp] theorem py_bl {b : Bool} : D.py (.bl b) = .bool b := by simp only [D.py]
@[simp] theorem py_int : D.py (.int i) = .int i := by simp only [D.py]
@[simp] theorem py_str : D.py (.str s) = .str s := by simp only [D.py]
@[simp] theorem py_lst : D.py (.lst l) = .list (D.pys l) := by simp only [D.py]
@[simp] theorem py_own : D.py (.own l) = .list (D.pys l) := by simp only [D.py]
@[simp] theorem py_tup : D.py (.tup l) = .tuple (D.pys l) := by simp only [D.py]
theorem pys_eq : D.pys l = l.map D.py := by
  induction l with
  | nil => simp [D.pys]
  | cons d l ih => simp [D.pys, ih]
@[simp] theorem pys_nil : D.pys [] = [] := by simp [pys_eq]
@[simp] theorem pys_cons : D.pys (d :: l) = d.py :: D.pys l := by simp [pys_eq]
@[simp] theorem pys_map {α : Type} {f : α → D} {xs : List α} : D.pys (xs.map f) = xs.map fun x => (f x).py := by rw [pys_eq, List.map_map]; rfl
@[simp] theorem li_lst : D.li (.lst l) = some l := rfl
@[simp] theorem li_own : D.li (.own l) = if D.ofs l = true then some l else none := rfl
@[simp] theorem li2_lst : D.li2 (.lst l) = some l := rfl
@[simp] theorem li2_own : D.li2 (.own l) = if D.ofs l = true then some l else none := rfl
@[simp] theorem li2_scr {ns : List Int} : D.li2 (.scr ns) = some (ns.map .int) := rfl
/-! words -/
@[simp] theorem addD_ii : addD st (.int i) (.int j) = some (.int (i + j)) := rfl
@[simp] theorem addD_tt : addD st (.tup l) (.tup m) = if D.ofs l = true ∧ D.ofs m = true ∧ l.length + m.length ≤ BIG then some (.tup (l ++ m)) else none := rfl
theorem addD_ll {x y : D} (hx : x.li = some l) (hy : y.li = some m) (h : l.length + m.length ≤ BIG) : addD st x y = some (.own (l ++ m)) := by
  cases x <;> first | (cases hx; done) | skip
  all_goals (cases y <;> first | (cases hy; done) | skip)
  all_goals
    unfold addD
    simp only [hx, hy, Option.bind_some, h, if_true]
@[simp] theorem subD_ii : subD st (.int i) (.int j) = some (.int (i - j)) := rfl
@[simp] theorem mulD_ii : mulD st (.int i) (.int j) = if small64 i = true ∨ small64 j = true then some (.int (i * j)) else none := rfl
@[simp] theorem fdivD_ii : fdivD st (.int i) (.int j) = if small30 j = true then some (.int (i.fdiv j)) else none := rfl
@[simp] theorem modD_ii : modD st (.int i) (.int j) = if j ≠ 0 then some (.int (i.fmod j)) else none := rfl
@[simp] theorem powD_ii : powD st (.int i) (.int j) = if okPow i j = true then some (.int (i ^ j.toNat)) else none := rfl
@[simp] theorem negD_i : negD st (.int i) = some (.int (-i)) := rfl
@[simp] theorem cmpD_ii {p : Int → Int → Bool} : cmpD p st (.int i) (.int j) = some (.bl (p i j)) := rfl
@[simp] theorem eqD_ii : eqD st (.int i) (.int j) = some (.bl (decide (i = j))) := rfl
@[simp] theorem neD_ii : neD st (.int i) (.int j) = some (.bl (!decide (i = j))) := rfl
@[simp] theorem eqD_bb {p q : Bool} : eqD st (.bl p) (.bl q) = some (.bl (decide (p = q))) := rfl
@[simp] theorem neD_bb {p q : Bool} : neD st (.bl p) (.bl q) = some (.bl (!decide (p = q))) := rfl
@[simp] theorem eqD_ss {p q : Str} : eqD st (.str p) (.str q) = some (.bl (decide (p = q))) := rfl
@[simp] theorem neD_ss {p q : Str} : neD st (.str p) (.str q) = some (.bl (!decide (p = q))) := rfl
@[simp] theorem eqD_in : eqD st (.int i) .non = some (.bl false) := rfl
@[simp] theorem neD_in : neD st (.int i) .non = some (.bl true) := rfl
@[simp] theorem isND_non : isND st .non .non = some (.bl true) := rfl
@[simp] theorem isND_int : isND st (.int i) .non = some (.bl false) := rfl
@[simp] theorem isND_bl {p : Bool} : isND st (.bl p) .non = some (.bl false) := rfl
@[simp] theorem isND_str : isND st (.str s) .non = some (.bl false) := rfl
@[simp] theorem isND_tup : isND st (.tup l) .non = some (.bl false) := rfl
@[simp] theorem isND_lst : isND st (.lst l) .non = some (.bl false) := rfl
@[simp] theorem notND_non : notND st .non .non = some (.bl false) := rfl
@[simp] theorem notND_int : notND st (.int i) .non = some (.bl true) := rfl
@[simp] theorem notND_tup : notND st (.tup l) .non = some (.bl true) := rfl
@[simp] theorem ixD_tup : ixD st (.tup l) (.int i) = if D.ofs l = true then L2.atI l i else none := rfl
@[simp] theorem ixD_lst : ixD st (.lst l) (.int i) = L2.atI l i := rfl
@[simp] theorem ixD_own : ixD st (.own l) (.int i) = if D.ofs l = true then L2.atI l i else none := by
  show (D.li (.own l)).bind _ = _
  rw [li_own]
  split <;> simp
@[simp] theorem ixD_cell {c : Nat} : ixD st (.cell c) (.int i) = (st[c]?).bind fun l => L2.atI l i := rfl
@[simp] theorem ixD_scr {ns : List Int} : ixD st (.scr ns) (.int i) = (L2.atI ns i).map .int := rfl
@[simp] theorem lenD_tup : lenD st [.tup l] = some (.int l.length) := rfl
@[simp] theorem lenD_lst : lenD st [.lst l] = some (.int l.length) := rfl
@[simp] theorem lenD_own : lenD st [.own l] = some (.int l.length) := rfl
@[simp] theorem lenD_scr {ns : List Int} : lenD st [.scr ns] = some (.int ns.length) := rfl
@[simp] theorem absD_i : absD st [.int i] = some (.int (if i < 0 then -i else i)) := rfl
@[simp] theorem max2D_ii : max2D st [.int i, .int j] = some (.int (if j > i then j else i)) := rfl
@[simp] theorem min2D_ii : min2D st [.int i, .int j] = some (.int (if j < i then j else i)) := rfl
@[simp] theorem int1D_i : int1D st [.int i] = some (.int i) := rfl
@[simp] theorem sumD_own {ns : List Int} : sumD st [.own (ns.map .int)] = some (.int ns.sum) := by simp [sumD]
@[simp] theorem allD_own {ns : List Bool} : allD st [.own (ns.map .bl)] = some (.bl (ns.all id)) := by simp [allD]
@[simp] theorem anyD_own {ns : List Bool} : anyD st [.own (ns.map .bl)] = some (.bl (ns.any id)) := by simp [anyD]
theorem sumD_map {α : Type} (xs : List α) (f : α → Int) : sumD st [.own (xs.map fun x => .int (f x))] = some (.int (xs.map f).sum) := by
  have := sumD_own (st := st) (ns := xs.map f)
  rwa [List.map_map] at this
theorem allD_map {α : Type} (xs : List α) (f : α → Bool) : allD st [.own (xs.map fun x => .bl (f x))] = some (.bl (xs.all f)) := by
  have := allD_own (st := st) (ns := xs.map f)
  rw [List.map_map] at this
  rw [List.all_map] at this
  exact this
theorem anyD_map {α : Type} (xs : List α) (f : α → Bool) : anyD st [.own (xs.map fun x => .bl (f x))] = some (.bl (xs.any f)) := by
  have := anyD_own (st := st) (ns := xs.map f)
  rw [List.map_map] at this
  rw [List.any_map] at this
  exact this
@[simp] theorem tupD_own : tupD st [.own l] = if D.ofs l = true then some (.tup l) else none := by
  show (D.li (.own l)).map D.tup = _
  rw [li_own]
  split <;> simp
@[simp] theorem tupD_lst : tupD st [.lst l] = some (.tup l) := rfl
@[simp] theorem tupD_tup : tupD st [.tup l] = if D.ofs l = true then some (.tup l) else none := rfl
@[simp] theorem slD_scr {ns : List Int} {lo hi : Option Int} : slD (.scr ns) lo hi = some (.own (cutL (ns.map .int) lo hi)) := rfl
@[simp] theorem slD_tup {lo hi : Option Int} : slD (.tup l) lo hi = if D.ofs l = true then some (.tup (cutL l lo hi)) else none := rfl
@[simp] theorem slD_lst {lo hi : Option Int} : slD (.lst l) lo hi = some (.own (cutL l lo hi)) := rfl
@[simp] theorem isa_ty {T : String} : isaB T d = (d.ty == T || (d.ty == "bool" && T == "int")) := rfl
@[simp] theorem ty_non : D.ty .non = "NoneType" := rfl
@[simp] theorem ty_bl {p : Bool} : D.ty (.bl p) = "bool" := rfl
@[simp] theorem ty_int : D.ty (.int i) = "int" := rfl
@[simp] theorem ty_str : D.ty (.str s) = "str" := rfl
@[simp] theorem ty_tup : D.ty (.tup l) = "tuple" := rfl
@[simp] theorem ty_lst : D.ty (.lst l) = "list" := rfl
@[simp] theorem ty_own : D.ty (.own l) = "list" := rfl
@[simp] theorem BIG_ev : BIG = 1000000 := rfl
theorem atI_nat {α : Type} {xs : List α} {k : Nat} : L2.atI xs (k : Int) = xs[k]? := by
  unfold L2.atI L2.ixN
  by_cases h : k < xs.length
  · simp [h]
  · simp [h]
theorem steps_eq {lo c : Int} {n : Nat} : steps lo c n = (List.range n).map fun (i : Nat) => D.int (lo + (i : Int) * c) := rfl
theorem fin_same {r : D} (h : st.length = st.length) : fin st r st = some (r, st) := by unfold fin; simp
/-- a def's call, by its body -/
theorem wp_mkFn {n np : Nat} {body : SS} {ds : List D} {Q : D × Ms → Prop} (hl : ds.length = np) (h : Wp (body (ds.map some ++ List.replicate (n - np) none) st) fun r => match r with
    | .rt r st' => st'.length = st.length ∧ Q (r, st')
    | .nx _ st' => st'.length = st.length ∧ Q (.non, st')
    | _ => False) : Wp (mkFn n np body ds st) Q := by
  obtain ⟨r, e, q⟩ := h
  unfold mkFn
  rw [if_pos hl, e]
  cases r with
  | rt r st' => refine ⟨(r, st'), ?_, q.2⟩; simp [fin, q.1]
  | nx e st' => refine ⟨(.non, st'), ?_, q.2⟩; simp [fin, q.1]
  | bk _ _ => exact q.elim
  | ct _ _ => exact q.elim
/-- one that ends with a new cell -/
theorem wp_mkFn2 {n np : Nat} {body : SS} {ds : List D} {Q : D × Ms → Prop} (hl : ds.length = np) (h : Wp (body (ds.map some ++ List.replicate (n - np) none) st) fun r => match r with
    | .rt r st' => st.length ≤ st'.length ∧ r.nc = true ∧ Q (r, st'.take st.length)
    | _ => False) : Wp (mkFn n np body ds st) Q := by
  obtain ⟨r, e, q⟩ := h
  unfold mkFn
  rw [if_pos hl, e]
  cases r with
  | rt r st' =>
    obtain ⟨q1, q2, q3⟩ := q
    refine ⟨(r, st'.take st.length), ?_, q3⟩
    show fin st r st' = _
    unfold fin
    by_cases hl : st'.length = st.length
    · rw [if_pos hl, ← hl, List.take_length]
    · rw [if_neg hl, if_pos ⟨q2, q1⟩]
  | nx e st' => exact q.elim
  | bk _ _ => exact q.elim
  | ct _ _ => exact q.elim
end
/-! shared mathematics -/
theorem fmod_rng {a n : Int} (h : 0 < n) : 0 ≤ a.fmod n ∧ a.fmod n < n := ⟨Int.fmod_nonneg_of_pos a h, Int.fmod_lt_of_pos a h⟩
theorem fdiv_nn {a n : Int} (h : 0 < n) (ha : 0 ≤ a) : 0 ≤ a.fdiv n := by
  rw [Int.fdiv_eq_ediv_of_nonneg _ (Int.le_of_lt h)]
  exact Int.ediv_nonneg ha (Int.le_of_lt h)
theorem cut_01 {α : Type} (xs : List α) : cutL xs none (some 1) = xs.take 1 := by
  cases xs with
  | nil => simp [cutL]
  | cons x r => simp [cutL, HT.sIx]
/-- the pot -/
def PotOk (st : Ms) : Prop := ∃ a b : Int, st = [[.int a, .int b]] ∧ 0 ≤ a ∧ 0 ≤ b ∧ b < 2147483648
theorem PotOk.len {st : Ms} (h : PotOk st) : st.length = 1 := by
  obtain ⟨a, b, rfl, _⟩ := h
  rfl
theorem ints_of {P : Int → Prop} : ∀ {ds : List D}, (∀ d ∈ ds, ∃ i : Int, d = .int i ∧ P i) → ∃ is : List Int, ds = is.map .int ∧ is.length = ds.length ∧ ∀ i ∈ is, P i
  | [], _ => ⟨[], rfl, rfl, fun i h => nomatch h⟩
  | d :: ds, h => by
    obtain ⟨is, e, l, q⟩ := ints_of fun d hd => h d (List.mem_cons_of_mem _ hd)
    obtain ⟨i, rfl, h2⟩ := h d List.mem_cons_self
    exact ⟨i :: is, by rw [e]; rfl, by simp [l], fun j hj => by
      rcases List.mem_cons.mp hj with rfl | hj
      · exact h2
      · exact q j hj⟩
/-- values drawn one by one -/
theorem wp_draws {env : Env} {st : Ms} {f : ES} {t : BS} {gs : GS} {vs : List Nat} {Q : List D × Env × Ms → Prop} {α : Type} (xs : List α) (g : α → D) (J : Ms → Prop) (R : D → Prop) (h0 : J st)
    (h : ∀ x ∈ xs, ∀ st, J st → Wp (gs (g x) env) fun e => Wp (t e st) fun y => y.1 = true ∧ Wp (f y.2.1 y.2.2) fun z => R z.1 ∧ J z.2.2 ∧ wipeE z.2.1 vs = env)
    (q : ∀ ds st, ds.length = xs.length → (∀ d ∈ ds, R d) → J st → Q (ds, env, st)) : Wp (compF gs t f vs (xs.map g) env st) Q := by
  refine wp_keep xs g J (fun _ d => R d) h0 h fun ds st hl hr hj => q ds st hl (fun d hd => ?_) hj
  obtain ⟨i, hi, e⟩ := List.mem_iff_getElem.mp hd
  exact hr i (xs[i]'(hl ▸ hi)) d (List.getElem?_eq_getElem _) (by rw [List.getElem?_eq_getElem hi, e])
@[simp] theorem atI_0 {α : Type} {xs : List α} : L2.atI xs 0 = xs[0]? := atI_nat (k := 0)
@[simp] theorem atI_1 {α : Type} {xs : List α} : L2.atI xs 1 = xs[1]? := atI_nat (k := 1)
@[simp] theorem atI_2 {α : Type} {xs : List α} : L2.atI xs 2 = xs[2]? := atI_nat (k := 2)
@[simp] theorem atI_3 {α : Type} {xs : List α} : L2.atI xs 3 = xs[3]? := atI_nat (k := 3)
@[simp] theorem atI_m1 {α : Type} {xs : List α} : L2.atI xs (-1) = xs.getLast? := by
  unfold L2.atI L2.ixN
  rw [List.getLast?_eq_getElem?]
  cases xs with
  | nil => simp
  | cons x r =>
    simp
    have e : ((-1 : Int) + ((r.length : Int) + 1)) = (r.length : Int) := by omega
    first
      | rw [if_pos (by omega)]; simp [e]
      | simp [e]
/-- every value kept -/
theorem wp_each {env : Env} {st : Ms} {f : ES} {gs : GS} {vs : List Nat} {Q : List D × Env × Ms → Prop} {α : Type} (xs : List α) (g : α → D) (v : α → D)
    (h : ∀ x ∈ xs, Wp (gs (g x) env) fun e => Wp (f e st) fun z => z.1 = v x ∧ z.2.2 = st ∧ wipeE z.2.1 vs = env)
    (q : Q (xs.map v, env, st)) : Wp (compF gs bYes f vs (xs.map g) env st) Q :=
  wp_map xs g (fun _ => true) v (fun x hx => (h x hx).mono fun e w => by simpa using w) (by rw [List.filter_eq_self.mpr fun _ _ => rfl]; exact q)
end Pv

/-! # PvY -/
set_option Elab.async false
set_option linter.all false
set_option maxHeartbeats 1000000
/-! likeness, order and text of given values -/
namespace Pv
open PySem
@[simp] theorem lay_non : PyData.canLay0 .none = true := by simp [PyData.canLay0]
@[simp] theorem lay_bl {b : Bool} : PyData.canLay0 (.bool b) = true := by simp [PyData.canLay0]
@[simp] theorem lay_int {i : Int} : PyData.canLay0 (.int i) = true := by simp [PyData.canLay0]
@[simp] theorem lay_str {s : Str} : PyData.canLay0 (.str s) = PyData.strOk s := by simp [PyData.canLay0]
@[simp] theorem lay_list {l : List PyData} : PyData.canLay0 (.list l) = PyData.canLayAll0 l := by simp [PyData.canLay0]
@[simp] theorem lay_tuple {l : List PyData} : PyData.canLay0 (.tuple l) = PyData.canLayAll0 l := by simp [PyData.canLay0]
theorem layAll_eq {l : List PyData} : PyData.canLayAll0 l = l.all PyData.canLay0 := by
  induction l with
  | nil => simp [PyData.canLayAll0]
  | cons d l ih => simp [PyData.canLayAll0, ih]
@[simp] theorem layAll_nil : PyData.canLayAll0 [] = true := by simp [layAll_eq]
@[simp] theorem layAll_cons {d : PyData} {l : List PyData} : PyData.canLayAll0 (d :: l) = (d.canLay0 && PyData.canLayAll0 l) := by simp [layAll_eq]
@[simp] theorem layAll_map {α : Type} {f : α → PyData} {xs : List α} : PyData.canLayAll0 (xs.map f) = xs.all fun x => (f x).canLay0 := by rw [layAll_eq, List.all_map]; rfl
section
variable {st : Ms} {l m : List D} {a b d : D}
theorem depAll_le {k : Nat} : ∀ {l : List PyData}, (∀ x ∈ l, x.depth ≤ k) → PyData.depthAll l ≤ k
  | [], _ => by simp [PyData.depthAll]
  | x :: l, h => by
    simp only [PyData.depthAll]
    exact Nat.max_le.mpr ⟨h x List.mem_cons_self, depAll_le fun y hy => h y (List.mem_cons_of_mem _ hy)⟩
@[simp] theorem dep_int {i : Int} : PyData.depth (.int i) = 0 := by simp [PyData.depth]
@[simp] theorem dep_non : PyData.depth .none = 0 := by simp [PyData.depth]
@[simp] theorem dep_str {s : Str} : PyData.depth (.str s) = 0 := by simp [PyData.depth]
@[simp] theorem dep_bl {s : Bool} : PyData.depth (.bool s) = 0 := by simp [PyData.depth]
@[simp] theorem dep_list {l : List PyData} : PyData.depth (.list l) = PyData.depthAll l + 1 := by simp [PyData.depth]
@[simp] theorem dep_tuple {l : List PyData} : PyData.depth (.tuple l) = PyData.depthAll l + 1 := by simp [PyData.depth]
@[simp] theorem depAll_nil : PyData.depthAll [] = 0 := by simp [PyData.depthAll]
@[simp] theorem depAll_cons {x : PyData} {l : List PyData} : PyData.depthAll (x :: l) = max x.depth (PyData.depthAll l) := by simp [PyData.depthAll]
@[simp] theorem depAll_ints {xs : List Int} : PyData.depthAll (xs.map fun i => PyData.int i) = 0 := Nat.le_zero.mp (depAll_le fun x hx => by
  obtain ⟨i, _, rfl⟩ := List.mem_map.mp hx
  simp)
theorem depAll_map {α : Type} {xs : List α} {f : α → PyData} {k : Nat} (h : ∀ x ∈ xs, (f x).depth ≤ k) : PyData.depthAll (xs.map f) ≤ k := depAll_le fun y hy => by
  obtain ⟨x, hx, rfl⟩ := List.mem_map.mp hy
  exact h x hx
/-- a seq's value -/
def D.isSq : D → Bool
  | .tup _ => true | .lst _ => true | .own _ => true
  | _ => false
theorem eqB_sq (ha : a.isSq = true) (hb : b.isSq = true) (na : a.nc = true) (nb : b.nc = true) (ca : a.py.canLay0 = true) (cb : b.py.canLay0 = true) (da : a.py.depth ≤ 64) (db : b.py.depth ≤ 64) : eqB a b = some (PyData.eqv a.py b.py) := by
  have sa : SeqAt.shaped a.py = true := by simp [SeqAt.shaped, ca, da]
  have sb : SeqAt.shaped b.py = true := by simp [SeqAt.shaped, cb, db]
  cases a <;> first | (cases ha; done) | skip
  all_goals (cases b <;> first | (cases hb; done) | skip)
  all_goals exact if_pos ⟨na, nb, sa, sb⟩
theorem eqD_sq (ha : a.isSq = true) (hb : b.isSq = true) (na : a.nc = true) (nb : b.nc = true) (ca : a.py.canLay0 = true) (cb : b.py.canLay0 = true) (da : a.py.depth ≤ 64) (db : b.py.depth ≤ 64) : eqD st a b = some (.bl (PyData.eqv a.py b.py)) := by
  unfold eqD; rw [eqB_sq ha hb na nb ca cb da db]; rfl
theorem neD_sq (ha : a.isSq = true) (hb : b.isSq = true) (na : a.nc = true) (nb : b.nc = true) (ca : a.py.canLay0 = true) (cb : b.py.canLay0 = true) (da : a.py.depth ≤ 64) (db : b.py.depth ≤ 64) : neD st a b = some (.bl (!PyData.eqv a.py b.py)) := by
  unfold neD; rw [eqB_sq ha hb na nb ca cb da db]; rfl
@[simp] theorem eqv_int {i j : Int} : PyData.eqv (.int i) (.int j) = (i == j) := by simp [PyData.eqv]
@[simp] theorem eqv_list {a b : List PyData} : PyData.eqv (.list a) (.list b) = PyData.eqvAll a b := by simp [PyData.eqv]
@[simp] theorem eqv_tuple {a b : List PyData} : PyData.eqv (.tuple a) (.tuple b) = PyData.eqvAll a b := by simp [PyData.eqv]
@[simp] theorem eqvAll_nn : PyData.eqvAll [] [] = true := by simp [PyData.eqvAll]
@[simp] theorem eqvAll_cn {a : PyData} {b : List PyData} : PyData.eqvAll (a :: b) [] = false := by simp [PyData.eqvAll]
@[simp] theorem eqvAll_nc {a : PyData} {b : List PyData} : PyData.eqvAll [] (a :: b) = false := by simp [PyData.eqvAll]
@[simp] theorem eqvAll_cc {a c : PyData} {b d : List PyData} : PyData.eqvAll (a :: b) (c :: d) = (PyData.eqv a c && PyData.eqvAll b d) := by simp [PyData.eqvAll]
theorem eqvAll_nil_r {l : List PyData} : PyData.eqvAll l [] = l.isEmpty := by cases l <;> simp
/-- is it []? -/
theorem eqD_nil_own (n : D.ncs l = true) (cl : PyData.canLayAll0 (D.pys l) = true) (dl : PyData.depthAll (D.pys l) ≤ 63) : eqD st (.own l) (.own []) = some (.bl l.isEmpty) := by
  rw [eqD_sq rfl rfl (by simpa using n) (by simp) (by simpa using cl) (by simp) (by simpa using dl) (by simp)]
  simp [eqvAll_nil_r, pys_eq]
theorem neD_nil_own (n : D.ncs l = true) (cl : PyData.canLayAll0 (D.pys l) = true) (dl : PyData.depthAll (D.pys l) ≤ 63) : neD st (.own l) (.own []) = some (.bl (!l.isEmpty)) := by
  rw [neD_sq rfl rfl (by simpa using n) (by simp) (by simpa using cl) (by simp) (by simpa using dl) (by simp)]
  simp [eqvAll_nil_r, pys_eq]
theorem eqD_nil_lst (n : D.ncs l = true) (cl : PyData.canLayAll0 (D.pys l) = true) (dl : PyData.depthAll (D.pys l) ≤ 63) : eqD st (.lst l) (.own []) = some (.bl l.isEmpty) := by
  rw [eqD_sq rfl rfl (by simpa using n) (by simp) (by simpa using cl) (by simp) (by simpa using dl) (by simp)]
  simp [eqvAll_nil_r, pys_eq]
theorem neD_nil_lst (n : D.ncs l = true) (cl : PyData.canLayAll0 (D.pys l) = true) (dl : PyData.depthAll (D.pys l) ≤ 63) : neD st (.lst l) (.own []) = some (.bl (!l.isEmpty)) := by
  rw [neD_sq rfl rfl (by simpa using n) (by simp) (by simpa using cl) (by simp) (by simpa using dl) (by simp)]
  simp [eqvAll_nil_r, pys_eq]
theorem eqD_nil_tup (n : D.ncs l = true) (cl : PyData.canLayAll0 (D.pys l) = true) (dl : PyData.depthAll (D.pys l) ≤ 63) : eqD st (.tup l) (.tup []) = some (.bl l.isEmpty) := by
  rw [eqD_sq rfl rfl (by simpa using n) (by simp) (by simpa using cl) (by simp) (by simpa using dl) (by simp)]
  simp [eqvAll_nil_r, pys_eq]
theorem neD_nil_tup (n : D.ncs l = true) (cl : PyData.canLayAll0 (D.pys l) = true) (dl : PyData.depthAll (D.pys l) ≤ 63) : neD st (.tup l) (.tup []) = some (.bl (!l.isEmpty)) := by
  rw [neD_sq rfl rfl (by simpa using n) (by simp) (by simpa using cl) (by simp) (by simpa using dl) (by simp)]
  simp [eqvAll_nil_r, pys_eq]
theorem eqvAll_ints : ∀ xs ys : List Int, PyData.eqvAll (xs.map fun i => PyData.int i) (ys.map fun i => PyData.int i) = decide (xs = ys)
  | [], [] => by simp
  | [], y :: ys => by simp
  | x :: xs, [] => by simp
  | x :: xs, y :: ys => by
    simp [eqvAll_ints xs ys]
    by_cases h : x = y <;> simp [h]
/-! order -/
@[simp] theorem alike_int {i j : Int} : W.alike (.int i) (.int j) = true := by simp [W.alike]
@[simp] theorem alike_tuple {a b : List PyData} : W.alike (.tuple a) (.tuple b) = W.alikeAll a b := by simp [W.alike]
@[simp] theorem alikeAll_cn {a : PyData} {b : List PyData} : W.alikeAll (a :: b) [] = true := by simp [W.alikeAll]
@[simp] theorem alikeAll_nil {b : List PyData} : W.alikeAll [] b = true := by simp [W.alikeAll]
@[simp] theorem alikeAll_cc {a c : PyData} {b d : List PyData} : W.alikeAll (a :: b) (c :: d) = (W.alike a c && W.alikeAll b d) := by simp [W.alikeAll]
theorem alikeAll_ints : ∀ xs ys : List Int, W.alikeAll (xs.map fun i => PyData.int i) (ys.map fun i => PyData.int i) = true
  | [], _ => by simp
  | x :: xs, [] => by simp
  | x :: xs, y :: ys => by simp [alikeAll_ints xs ys]
theorem alikeB_map {α : Type} {xs : List α} {f : α → PyData} (h : ∀ x ∈ xs, ∀ y ∈ xs, W.alike (f x) (f y) = true) (hn : ∀ x ∈ xs, f x ≠ .none) : alikeB (xs.map f) = true := by
  unfold alikeB
  simp only [Bool.and_eq_true, List.all_eq_true, List.mem_map, forall_exists_index, and_imp, forall_apply_eq_imp_iff₂]
  refine ⟨h, fun x hx => ?_⟩
  have := hn x hx
  split
  · rename_i e; exact absurd e this
  · rfl
@[simp] theorem ofPy_int {i : Int} : ofPy (.int i) = .int i := by simp only [ofPy]
theorem ext_max {x : Int} {r : List Int} : extD W.maxD st [.own ((x :: r).map .int)] = some (.int (r.foldl max x)) := by
  have h : D.pls ((x :: r).map .int) = true ∧ alikeB (D.pys ((x :: r).map .int)) = true ∧ PyData.depthAll (D.pys ((x :: r).map .int)) ≤ 60 := by
    refine ⟨by simp, ?_, by simp⟩
    have := alikeB_map (xs := x :: r) (f := fun i => PyData.int i) (by simp) (by simp)
    simpa using this
  show (D.li (.own ((x :: r).map .int))).bind _ = _
  rw [li_own, if_pos (by simp)]
  show (if _ then some (ofPy (W.maxD (D.py (.int x)) (D.pys (r.map .int)))) else none) = _
  rw [List.map_cons] at h
  rw [if_pos h, py_int, pys_map]
  simp only [py_int]
  rw [W.maxD_ints, ofPy_int]
theorem ext_max_lst {x : Int} {r : List Int} : extD W.maxD st [.lst ((x :: r).map .int)] = some (.int (r.foldl max x)) := by
  have e := ext_max (st := st) (x := x) (r := r)
  unfold extD at e ⊢
  simpa only [li_own, li_lst, ofs_map, of_int, List.all_eq_true, implies_true, if_true] using e
@[simp] theorem addD_oo : addD st (.own l) (.own m) = if D.ofs l = true ∧ D.ofs m = true ∧ l.length + m.length ≤ BIG then some (.own (l ++ m)) else none := by
  by_cases h1 : D.ofs l = true
  · by_cases h2 : D.ofs m = true
    · by_cases h3 : l.length + m.length ≤ BIG
      · rw [if_pos ⟨h1, h2, h3⟩]
        exact addD_ll (by simp [h1]) (by simp [h2]) h3
      · rw [if_neg fun z => h3 z.2.2]
        show (D.li (.own l)).bind _ = _
        rw [li_own, if_pos h1]
        show (D.li (.own m)).bind _ = _
        rw [li_own, if_pos h2]
        exact if_neg h3
    · rw [if_neg fun z => h2 z.2.1]
      show (D.li (.own l)).bind _ = _
      rw [li_own, if_pos h1]
      show (D.li (.own m)).bind _ = _
      rw [li_own, if_neg h2]
      rfl
  · rw [if_neg fun z => h1 z.1]
    show (D.li (.own l)).bind _ = _
    rw [li_own, if_neg h1]
    rfl
@[simp] theorem addD_ol : addD st (.own l) (.lst m) = if D.ofs l = true ∧ l.length + m.length ≤ BIG then some (.own (l ++ m)) else none := by
  by_cases h1 : D.ofs l = true
  · by_cases h3 : l.length + m.length ≤ BIG
    · rw [if_pos ⟨h1, h3⟩]
      exact addD_ll (by simp [h1]) rfl h3
    · rw [if_neg fun z => h3 z.2]
      show (D.li (.own l)).bind _ = _
      rw [li_own, if_pos h1]
      exact if_neg h3
  · rw [if_neg fun z => h1 z.1]
    show (D.li (.own l)).bind _ = _
    rw [li_own, if_neg h1]
    rfl
@[simp] theorem addD_lo : addD st (.lst l) (.own m) = if D.ofs m = true ∧ l.length + m.length ≤ BIG then some (.own (l ++ m)) else none := by
  by_cases h1 : D.ofs m = true
  · by_cases h3 : l.length + m.length ≤ BIG
    · rw [if_pos ⟨h1, h3⟩]
      exact addD_ll rfl (by simp [h1]) h3
    · rw [if_neg fun z => h3 z.2]
      show (D.li (.own m)).bind _ = _
      rw [li_own, if_pos h1]
      exact if_neg h3
  · rw [if_neg fun z => h1 z.1]
    show (D.li (.own m)).bind _ = _
    rw [li_own, if_neg h1]
    rfl
@[simp] theorem addD_lstlst : addD st (.lst l) (.lst m) = if l.length + m.length ≤ BIG then some (.own (l ++ m)) else none := rfl
theorem cut_0n {α : Type} (xs : List α) (n : Nat) : cutL xs none (some (n : Int)) = xs.take n := by
  unfold cutL
  have e : HT.sIx xs.length xs.length (some (n : Int)) = min n xs.length := by
    simp only [HT.sIx]
    rw [if_neg (by omega)]
    simp
  rw [e]
  simp [HT.sIx]
end
@[simp] theorem ex2 {α β : Type} {x : α} {y : β} {P : α → β → Prop} : (∃ a b, (x = a ∧ y = b) ∧ P a b) ↔ P x y := ⟨fun ⟨a, b, ⟨e1, e2⟩, h⟩ => by subst e1 e2; exact h, fun h => ⟨x, y, ⟨rfl, rfl⟩, h⟩⟩
@[simp] theorem ex3 {α β γ : Type} {x : α} {y : β} {z : γ} {P : α → β → γ → Prop} : (∃ a b c, (x = a ∧ y = b ∧ z = c) ∧ P a b c) ↔ P x y z := ⟨fun ⟨a, b, c, ⟨e1, e2, e3⟩, h⟩ => by subst e1 e2 e3; exact h, fun h => ⟨x, y, z, ⟨rfl, rfl, rfl⟩, h⟩⟩
theorem wp_step {α : Type} {o : Option α} {Q : α → Prop} {x : α} (h : o = some x) (q : Q x) : Wp o Q := ⟨x, h, q⟩
theorem wp_val {f : ES} {env : Env} {st : Ms} {Q : D × Env × Ms → Prop} (d : D) (h : f env st = some (d, env, st)) (q : Q (d, env, st)) : Wp (f env st) Q := ⟨_, h, q⟩
end Pv

/-! # PvR -/
set_option Elab.async false
set_option linter.all false
set_option maxHeartbeats 1000000
/-! the text of a value: it is short enough -/
namespace Pv
open PySem
@[simp] theorem show_int {i : Int} : PyData.showable (.int i) = decide (i.natAbs.log2 < 1920) := by simp [PyData.showable]
@[simp] theorem show_str {s : Str} : PyData.showable (.str s) = true := by simp [PyData.showable]
@[simp] theorem show_non : PyData.showable .none = true := by simp [PyData.showable]
@[simp] theorem show_bl {b : Bool} : PyData.showable (.bool b) = true := by simp [PyData.showable]
@[simp] theorem show_tuple {l : List PyData} : PyData.showable (.tuple l) = PyData.showableAll l := by simp [PyData.showable]
@[simp] theorem show_list {l : List PyData} : PyData.showable (.list l) = PyData.showableAll l := by simp [PyData.showable]
theorem showAll_eq {l : List PyData} : PyData.showableAll l = l.all PyData.showable := by
  induction l with
  | nil => simp [PyData.showableAll]
  | cons d l ih => simp [PyData.showableAll, ih]
theorem shownAll_eq {l : List PyData} : PyData.shownAll l = l.map PyData.shown := by
  induction l with
  | nil => simp [PyData.shownAll]
  | cons d l ih => simp [PyData.shownAll, ih]
theorem shown_tuple {l : List PyData} : PyData.shown (.tuple l) = tupleText (l.map PyData.shown) := by simp [PyData.shown, shownAll_eq]
theorem shown_list {l : List PyData} : PyData.shown (.list l) = listText (l.map PyData.shown) := by simp [PyData.shown, shownAll_eq]
theorem shown_int {i : Int} : PyData.shown (.int i) = Str.ofString i.repr := by simp [PyData.shown]
theorem shown_str {i : Str} : PyData.shown (.str i) = reprText i := by simp [PyData.shown]
theorem piled_le {b : Nat} : ∀ {ts : List Str}, (∀ t ∈ ts, t.length ≤ b) → piled ts ≤ ts.length * (b + 2)
  | [], _ => by simp [piled]
  | t :: ts, h => by
    have ih := piled_le fun t ht => h t (List.mem_cons_of_mem _ ht)
    have h0 := h t List.mem_cons_self
    rw [List.length_cons, Nat.succ_mul, piled_cons]
    omega
theorem tt_len (ts : List Str) : (tupleText ts).length ≤ piled ts + 4 := by
  have a : ∀ x y : Str, (x ++ y).length = x.length + y.length := fun x y => by
    show (x.cps ++ y.cps).size = _
    rw [Array.size_append]; rfl
  have e : (Str.ofString (if (ts.length == 1) = true then ",)" else ")")).length ≤ 2 := by split <;> decide
  have e1 : (Str.ofString "(").length = 1 := by decide
  unfold tupleText
  rw [a, a, e1]
  cases ts with
  | nil =>
    have : (Str.join (Str.ofString ", ") []).length = 0 := by rfl
    omega
  | cons t ts =>
    have := join_length_add (t :: ts) (by simp)
    omega
theorem shown_tup_le {α : Type} {xs : List α} {f : α → PyData} {b : Nat} (h : ∀ x ∈ xs, (f x).shown.length ≤ b) : (PyData.shown (.tuple (xs.map f))).length ≤ xs.length * (b + 2) + 4 := by
  rw [shown_tuple]
  refine Nat.le_trans (tt_len _) (Nat.add_le_add_right ?_ 4)
  refine Nat.le_trans (piled_le (b := b) fun t ht => ?_) (by simp)
  simp at ht
  obtain ⟨x, hx, rfl⟩ := ht
  exact h x hx
theorem int_short_all : ∀ n ∈ List.range 2001, (Str.ofString (((n : Int) - 1000).repr)).length ≤ 5 := by decide +kernel
theorem int_short {i : Int} (h : -1000 ≤ i) (h2 : i ≤ 1000) : (PyData.shown (.int i)).length ≤ 5 := by
  rw [shown_int]
  have := int_short_all (i + 1000).toNat (List.mem_range.mpr (by omega))
  rwa [show (((i + 1000).toNat : Nat) : Int) - 1000 = i by omega] at this
theorem int_shows {i : Int} (h : -1000 ≤ i) (h2 : i ≤ 1000) : PyData.showable (.int i) = true := by
  rw [show_int, decide_eq_true_eq]
  have h3 : i.natAbs < 2 ^ 11 := by omega
  by_cases h0 : i.natAbs = 0
  · rw [h0]; decide
  · have := (Nat.log2_lt h0).mpr h3
    omega
end Pv

/-! # PvZ -/
set_option Elab.async false
set_option linter.all false
set_option maxHeartbeats 1000000
set_option maxRecDepth 10000
/-! the law's own comparison, of a value with itself -/
namespace Pv
open PySem
def F_same (m : FS) : SS := (sSeq (sIf (fB (fBin isND (fPk 1) (fC .non))) (sRet (fBin isND (fPk 0) (fC .non))) sNil)
  (sSeq (sIf (fB (fIsa "bool" (fPk 1))) (sRet (fAnd (fIsa "bool" (fPk 0)) (fBin eqD (fPk 0) (fPk 1)))) sNil)
  (sSeq (sIf (fB (fIsa "str" (fPk 1))) (sRet (fAnd (fIsa "str" (fPk 0)) (fBin eqD (fPk 0) (fPk 1)))) sNil)
  (sSeq (sIf (fB (fIsa "int" (fPk 1))) (sRet (fAnd (fIsa "int" (fPk 0)) (fAnd (fNot (fIsa "bool" (fPk 0))) (fBin eqD (fPk 0) (fPk 1))))) sNil)
  (sSeq (sIf (fB (fIsa "tuple" (fPk 1))) (sSeq (sIf (bOr (bNot (fB (fIsa "tuple" (fPk 0)))) (fB (fBin neD (fCl lenD (aCons (fPk 0) aNil)) (fCl lenD (aCons (fPk 1) aNil))))) (sRet (fC (.bl false))) sNil)
  (sRet (fCl allD (aCons (fComp (wZip (aCons (fVar 0) (aCons (fVar 1) aNil))) (gTupS (gConsS (gN 2) (gConsS (gN 3) gNilS)) 2) bYes (fCall m (aCons (fVar 2) (aCons (fVar 3) aNil))) [2, 3]) aNil)))) sNil)
  (sSeq (sIf (fB (fIsa "list" (fPk 1))) (sSeq (sIf (bOr (bNot (fB (fIsa "list" (fPk 0)))) (fB (fBin neD (fCl lenD (aCons (fPk 0) aNil)) (fCl lenD (aCons (fPk 1) aNil))))) (sRet (fC (.bl false))) sNil)
  (sRet (fCl allD (aCons (fComp (wZip (aCons (fVar 0) (aCons (fVar 1) aNil))) (gTupS (gConsS (gN 2) (gConsS (gN 3) gNilS)) 2) bYes (fCall m (aCons (fVar 2) (aCons (fVar 3) aNil))) [2, 3]) aNil)))) sNil)
  (sRet (fBin eqD (fPk 0) (fPk 1)))))))))
def m_same_n : Nat → FS
  | 0 => fun _ _ => none
  | n + 1 => mkFn 4 2 (F_same (m_same_n n))
mutual
/-- plain, k deep at most, its lengths small -/
def D.ok : Nat → D → Bool
  | _, .non => true | _, .bl _ => true | _, .int _ => true | _, .str _ => true
  | k + 1, .tup l => decide (l.length ≤ 1000000) && D.oks k l
  | k + 1, .lst l => decide (l.length ≤ 1000000) && D.oks k l
  | _, _ => false
def D.oks : Nat → List D → Bool
  | _, [] => true
  | k, d :: l => D.ok k d && D.oks k l
end
theorem oks_all {k : Nat} : ∀ {l : List D}, D.oks k l = true → ∀ d ∈ l, D.ok k d = true
  | [], _, d, h => nomatch h
  | e :: l, h, d, hd => by
    simp only [D.oks, Bool.and_eq_true] at h
    rcases List.mem_cons.mp hd with rfl | hd
    · exact h.1
    · exact oks_all h.2 d hd
theorem oks_of {k : Nat} : ∀ {l : List D}, (∀ d ∈ l, D.ok k d = true) → D.oks k l = true
  | [], _ => by simp only [D.oks]
  | e :: l, h => by
    simp only [D.oks, Bool.and_eq_true]
    exact ⟨h e List.mem_cons_self, oks_of fun d hd => h d (List.mem_cons_of_mem _ hd)⟩
theorem ok_fz : ∀ {k : Nat} {d : D}, D.ok k d = true → d.fz = d
  | k, .non, _ => by simp
  | k, .bl _, _ => by simp
  | k, .int _, _ => by simp
  | k, .str _, _ => by simp
  | k, .lst _, _ => by simp
  | 0, .tup l, h => by simp only [D.ok] at h; cases h
  | k + 1, .tup l, h => by
    simp only [D.ok, Bool.and_eq_true] at h
    simp only [fz_tup, fzs_eq, D.tup.injEq]
    conv => rhs; rw [← List.map_id l]
    exact List.map_congr_left fun d hd => ok_fz (oks_all h.2 d hd)
  | k, .own l, h => by cases k <;> simp only [D.ok] at h <;> cases h
  | k, .cell l, h => by cases k <;> simp only [D.ok] at h <;> cases h
  | k, .scr l, h => by cases k <;> simp only [D.ok] at h <;> cases h
theorem zipD_self (l : List D) : zipD l l = l.map fun x => .tup [x, x] := by
  unfold zipD
  rw [List.zipWith_self]
theorem same_refl : ∀ (k : Nat) (d : D) (st : Ms), D.ok k d = true → m_same_n (k + 1) [d, d] st = some (.bl true, st) := by
  intro k
  induction k with
  | zero =>
    intro d st h
    rw [← wp_eq]
    refine wp_mkFn (by rfl) ?_
    cases d <;> first | (simp only [D.ok] at h; cases h; done) | skip
    all_goals simp [F_same, isND]
    all_goals simp [isN]
  | succ k ih =>
    intro d st h
    rw [← wp_eq]
    refine wp_mkFn (by rfl) ?_
    cases d with
    | non => simp [F_same, isND, isN]
    | bl b => simp [F_same, isND, isN]
    | int b => simp [F_same, isND, isN]
    | str b => simp [F_same, isND, isN]
    | tup l =>
      have hf := ok_fz h
      simp only [D.ok, Bool.and_eq_true, decide_eq_true_eq] at h
      rw [fz_tup, D.tup.injEq] at hf
      simp [F_same, isND, isN, wp_fComp, okAt, wipeE, restE, hf]
      rw [zipD_self]
      refine wp_each (α := D) l _ (fun _ => .bl true) (fun x hx => ?_) ?_
      · have hx2 := oks_all h.2 x hx
        simp [ih x st hx2, ok_fz hx2, wipeE]
      · simp only [List.length_map]
        exact ⟨h.1, wp_step (allD_map l (fun _ => true)) (by simp)⟩
    | lst l =>
      simp only [D.ok, Bool.and_eq_true, decide_eq_true_eq] at h
      simp [F_same, isND, isN, wp_fComp, okAt, wipeE, restE]
      rw [zipD_self]
      refine wp_each (α := D) l _ (fun _ => .bl true) (fun x hx => ?_) ?_
      · have hx2 := oks_all h.2 x hx
        simp [ih x st hx2, ok_fz hx2, wipeE]
      · simp only [List.length_map]
        exact ⟨h.1, wp_step (allD_map l (fun _ => true)) (by simp)⟩
    | own l => simp only [D.ok] at h; cases h
    | cell l => simp only [D.ok] at h; cases h
    | scr l => simp only [D.ok] at h; cases h
end Pv

/-! # the walk -/
set_option maxHeartbeats 2000000
set_option maxRecDepth 100000
namespace Pv.K20
open PySem PySem.Spec PyProof.Rows L2 Pv
abbrev topS (i : Nat) : Stmt := PySem.Challenge.pw_payingpit_k20_whole_worths_through_place.main.body.getD i (.Pass ⟨0, 0, 0, 0⟩)
/-! ### _law_pot -/
abbrev sd__law_pot : Stmt := topS 33
abbrev N__law_pot : List Str := ["script", "k", "spare", "cell"]
abbrev ps__law_pot : List Str := ["script", "k"]
theorem sc__law_pot : FnScope N__law_pot ps__law_pot (defScope sd__law_pot) := ⟨rfl, rfl, rfl, by decide +kernel, rfl, by decide +kernel, by decide +kernel⟩
theorem bp__law_pot : BindP "_law_pot" sd__law_pot ps__law_pot := fun _ _ _ _ _ _ us hl => match us, hl with | [_, _], _ => rfl
def F__law_pot : SS := (sSeq (sAsg 2 (fBin addD (fBin addD (fBin mulD (fC (.int 839)) (fPk 1)) (fC (.int 431))) (fBin modD (fCl int1D (aCons (fCl absD (aCons (fCl sumD (aCons (fSl (fPk 0) oNo (oE (fC (.int 1)))) aNil)) aNil)) aNil)) (fC (.int 1000003)))))
  (sSeq (sAsg 3 (fIf (fB (fBin ltD (fPk 1) (fCl lenD (aCons (fPk 0) aNil)))) (fCl absD (aCons (fBin ixD (fPk 0) (fPk 1)) aNil)) (fVar 2)))
  (sRet (fLst (aCons (fCl max2D (aCons (fC (.int 0)) (aCons (fBin subD (fPk 3) (fBin powD (fC (.int 10)) (fC (.int 18)))) aNil))) (aCons (fBin addD (fBin modD (fCl int1D (aCons (fBin addD (fBin addD (fBin mulD (fBin modD (fCl int1D (aCons (fPk 3) aNil)) (fC (.int 2147483579))) (fC (.int 40127))) (fBin mulD (fC (.int 6329)) (fPk 1))) (fC (.int 431))) aNil)) (fC (.int 2147483563))) (fC (.int 1))) aNil))))))
def m__law_pot : FS := mkFn 4 2 F__law_pot
theorem ok__law_pot {P : Program} {w : World} {K : PySem.W.Frag} {mg : Str → Option Value} {base : Heap} (D : Df K mg "_law_pot" sd__law_pot) (z_sum : mg "sum" = none) (z_abs : mg "abs" = none) (z_int : mg "int" = none) (z_len : mg "len" = none) (z_max : mg "max" = none) : Cal P w K mg base "_law_pot" sd__law_pot 1 ps__law_pot m__law_pot := cal_mk (N := N__law_pot) D sc__law_pot bp__law_pot (by decide) (fun f cdv A outer s H E hgd hr => by
  have hu := hr.units
  exact (ss_cons (s1_asg sc__law_pot.nd (by rfl) (.inl (by rfl)) (se_bin or_add ok_add (se_bin or_add ok_add (se_bin or_mul ok_mul sz_int.p (nP 1 (by rfl) (.inl (by rfl)))).p sz_int.p).p (se_bin op_modN ok_mod (b_int (by rfl) z_int (b_abs (by rfl) z_abs (b_sum (by rfl) (by rfl) z_sum (se_sl (nP 0 (by rfl) (.inl (by rfl))) so_no (so_e sz_int.p)).p).p).p).p sz_int.p).p))
  (ss_cons (s1_asg sc__law_pot.nd (by rfl) (.inl (by rfl)) (se_if (st_cmp op_lt ok_cmp (nP 1 (by rfl) (.inl (by rfl))) (b_len (by rfl) z_len (nP 0 (by rfl) (.inl (by rfl)))).p (nomark _)) (b_abs (by rfl) z_abs (se_ix or_ix ok_ix (nP 0 (by rfl) (.inl (by rfl))) (nP 1 (by rfl) (.inl (by rfl))) (fun _ _ => rfl)).p) (nZ 2 (by rfl) (.inl (by rfl))).se))
  (ss_one (s1_ret (se_lst (ses_cons (b_max2 (by rfl) (by rfl) z_max sz_int.p (se_bin op_sub ok_sub (nP 3 (by rfl) (.inl (by rfl))) (se_bin op_pow ok_pow sz_int.p sz_int.p).p).p) (ses_cons (se_bin or_add ok_add (se_bin op_modN ok_mod (b_int (by rfl) z_int (se_bin or_add ok_add (se_bin or_add ok_add (se_bin or_mul ok_mul (se_bin op_modN ok_mod (b_int (by rfl) z_int (nP 3 (by rfl) (.inl (by rfl)))).p sz_int.p).p sz_int.p).p (se_bin or_mul ok_mul sz_int.p (nP 1 (by rfl) (.inl (by rfl)))).p).p sz_int.p).p).p sz_int.p).p sz_int.p) ses_nil))))))))
/-! ### _law_draw -/
abbrev sd__law_draw : Stmt := topS 34
abbrev N__law_draw : List Str := ["pot", "many", "digit"]
abbrev ps__law_draw : List Str := ["pot", "many"]
theorem sc__law_draw : FnScope N__law_draw ps__law_draw (defScope sd__law_draw) := ⟨rfl, rfl, rfl, by decide +kernel, rfl, by decide +kernel, by decide +kernel⟩
theorem bp__law_draw : BindP "_law_draw" sd__law_draw ps__law_draw := fun _ _ _ _ _ _ us hl => match us, hl with | [_, _], _ => rfl
def F__law_draw : SS := (sSeq (sIf (fB (fBin gtD (fBin ixD (fPk 0) (fC (.int 0))) (fC (.int 0)))) (sSeq (sAsg 2 (fBin modD (fCl int1D (aCons (fBin ixD (fPk 0) (fC (.int 0))) aNil)) (fPk 1)))
  (sSeq (sSetC 0 (fC (.int 0)) (fZ (fBin fdivD (fCl int1D (aCons (fBin ixD (fPk 0) (fC (.int 0))) aNil)) (fPk 1))))
  (sRet (fMv 2)))) sNil)
  (sSeq (sSetC 0 (fC (.int 1)) (fZ (fBin modD (fCl int1D (aCons (fBin addD (fBin mulD (fBin ixD (fPk 0) (fC (.int 1))) (fC (.int 40127))) (fC (.int 6329))) aNil)) (fC (.int 2147483587)))))
  (sRet (fBin modD (fCl int1D (aCons (fBin fdivD (fBin modD (fCl int1D (aCons (fBin mulD (fBin ixD (fPk 0) (fC (.int 1))) (fBin ixD (fPk 0) (fC (.int 1)))) aNil)) (fC (.int 2147483549))) (fC (.int 23))) aNil)) (fPk 1)))))
def m__law_draw : FS := mkFn 3 2 F__law_draw
theorem ok__law_draw {P : Program} {w : World} {K : PySem.W.Frag} {mg : Str → Option Value} {base : Heap} (D : Df K mg "_law_draw" sd__law_draw) (z_int : mg "int" = none) : Cal P w K mg base "_law_draw" sd__law_draw 1 ps__law_draw m__law_draw := cal_mk (N := N__law_draw) D sc__law_draw bp__law_draw (by decide) (fun f cdv A outer s H E hgd hr => by
  have hu := hr.units
  exact (ss_cons (s1_if (st_cmp op_gt ok_cmp (se_ix or_ix ok_ix (nP 0 (by rfl) (.inl (by rfl))) sz_int.p (fun _ _ => rfl)).p sz_int.p (nomark _)) (ss_cons (s1_asg sc__law_draw.nd (by rfl) (.inl (by rfl)) (se_bin op_modN ok_mod (b_int (by rfl) z_int (se_ix or_ix ok_ix (nP 0 (by rfl) (.inl (by rfl))) sz_int.p (fun _ _ => rfl)).p).p (nP 1 (by rfl) (.inl (by rfl)))))
  (ss_cons (s1_setc (se_bin op_fdivN ok_fdiv (b_int (by rfl) z_int (se_ix or_ix ok_ix (nP 0 (by rfl) (.inl (by rfl))) sz_int.p (fun _ _ => rfl)).p).p (nP 1 (by rfl) (.inl (by rfl)))).z (pe_var (i := 0) (by rfl) (.inl (by rfl))) sz_int.p (fun _ => rfl))
  (ss_one (s1_ret (nM 2 (by rfl) (.inl (by rfl))))))) ss_nil)
  (ss_cons (s1_setc (se_bin op_modN ok_mod (b_int (by rfl) z_int (se_bin or_add ok_add (se_bin or_mul ok_mul (se_ix or_ix ok_ix (nP 0 (by rfl) (.inl (by rfl))) sz_int.p (fun _ _ => rfl)).p sz_int.p).p sz_int.p).p).p sz_int.p).z (pe_var (i := 0) (by rfl) (.inl (by rfl))) sz_int.p (fun _ => rfl))
  (ss_one (s1_ret (se_bin op_modN ok_mod (b_int (by rfl) z_int (se_bin op_fdivN ok_fdiv (se_bin op_modN ok_mod (b_int (by rfl) z_int (se_bin or_mul ok_mul (se_ix or_ix ok_ix (nP 0 (by rfl) (.inl (by rfl))) sz_int.p (fun _ _ => rfl)).p (se_ix or_ix ok_ix (nP 0 (by rfl) (.inl (by rfl))) sz_int.p (fun _ _ => rfl)).p).p).p sz_int.p).p sz_int.p).p).p (nP 1 (by rfl) (.inl (by rfl)))))))))
/-! ### _law_pick -/
abbrev sd__law_pick : Stmt := topS 35
abbrev N__law_pick : List Str := ["pot", "some"]
abbrev ps__law_pick : List Str := ["pot", "some"]
theorem sc__law_pick : FnScope N__law_pick ps__law_pick (defScope sd__law_pick) := ⟨rfl, rfl, rfl, by decide +kernel, rfl, by decide +kernel, by decide +kernel⟩
theorem bp__law_pick : BindP "_law_pick" sd__law_pick ps__law_pick := fun _ _ _ _ _ _ us hl => match us, hl with | [_, _], _ => rfl
def F__law_pick : SS := (sRet (fBin ixD (fPk 1) (fCall m__law_draw (aCons (fVar 0) (aCons (fZ (fCl lenD (aCons (fPk 1) aNil))) aNil)))))
def m__law_pick : FS := mkFn 2 2 F__law_pick
theorem ok__law_pick {P : Program} {w : World} {K : PySem.W.Frag} {mg : Str → Option Value} {base : Heap} (D : Df K mg "_law_pick" sd__law_pick) (c__law_draw : Cal P w K mg base "_law_draw" sd__law_draw 1 ps__law_draw m__law_draw) (z_len : mg "len" = none) : Cal P w K mg base "_law_pick" sd__law_pick 2 ps__law_pick m__law_pick := cal_mk (N := N__law_pick) D sc__law_pick bp__law_pick (by decide) (fun f cdv A outer s H E hgd hr => by
  have hu := hr.units
  exact (ss_one (s1_ret (se_ix or_ix ok_ix (nP 1 (by rfl) (.inl (by rfl))) (cl c__law_draw hr (by decide) hgd (by rfl) (szs_cons (nZ 0 (by rfl) (.inl (by rfl))) (szs_cons (b_len (by rfl) z_len (nP 1 (by rfl) (.inl (by rfl)))).z szs_nil))).p (fun _ _ => rfl)))))
/-! ### _law_section -/
abbrev sd__law_section : Stmt := topS 37
abbrev N__law_section : List Str := ["pot", "most_benches", "most_columns", "columns", "benches", "bench", "column"]
abbrev ps__law_section : List Str := ["pot", "most_benches", "most_columns"]
theorem sc__law_section : FnScope N__law_section ps__law_section (defScope sd__law_section) := ⟨rfl, rfl, rfl, by decide +kernel, rfl, by decide +kernel, by decide +kernel⟩
theorem bp__law_section : BindP "_law_section" sd__law_section ps__law_section := fun _ _ _ _ _ _ us hl => match us, hl with | [_, _, _], _ => rfl
def F__law_section : SS := (sSeq (sAsg 3 (fBin addD (fC (.int 1)) (fCall m__law_draw (aCons (fVar 0) (aCons (fVar 2) aNil)))))
  (sSeq (sAsg 4 (fLst aNil))
  (sSeq (sFor (wRng1 (aCons (fBin addD (fC (.int 1)) (fCall m__law_draw (aCons (fVar 0) (aCons (fVar 1) aNil)))) aNil)) (gN 5) (sApp 4 (fCl tupD (aCons (fComp (wRng1 (aCons (fPk 3) aNil)) (gN 6) bYes (fCall m__law_pick (aCons (fVar 0) (aCons (fZ (fTup (aCons (fBin subD (fCall m__law_draw (aCons (fVar 0) (aCons (fC (.int 9)) aNil))) (fC (.int 6))) (aCons (fBin subD (fCall m__law_draw (aCons (fVar 0) (aCons (fC (.int 15)) aNil))) (fC (.int 5))) (aCons (fBin subD (fC (.int 0)) (fC (.int 2))) aNil))))) aNil))) [6]) aNil))))
  (sRet (fTup (aCons (fC (.str "section")) (aCons (fCl tupD (aCons (fPk 4) aNil)) aNil)))))))
def m__law_section : FS := mkFn 7 3 F__law_section
theorem ok__law_section {P : Program} {w : World} {K : PySem.W.Frag} {mg : Str → Option Value} {base : Heap} (D : Df K mg "_law_section" sd__law_section) (c__law_draw : Cal P w K mg base "_law_draw" sd__law_draw 1 ps__law_draw m__law_draw) (c__law_pick : Cal P w K mg base "_law_pick" sd__law_pick 2 ps__law_pick m__law_pick) (z_range : mg "range" = none) (z_tuple : mg "tuple" = none) : Cal P w K mg base "_law_section" sd__law_section 3 ps__law_section m__law_section := cal_mk (N := N__law_section) D sc__law_section bp__law_section (by decide) (fun f cdv A outer s H E hgd hr => by
  have hu := hr.units
  exact (ss_cons (s1_asg sc__law_section.nd (by rfl) (.inl (by rfl)) (se_bin or_add ok_add sz_int.p (cl c__law_draw hr (by decide) hgd (by rfl) (szs_cons (nZ 0 (by rfl) (.inr (.inl (by rfl)))) (szs_cons (nZ 2 (by rfl) (.inl (by rfl))) szs_nil))).p))
  (ss_cons (s1_asg sc__law_section.nd (by rfl) (.inl (by rfl)) (se_lst ses_nil))
  (ss_cons (s1_for PassesOwn.never (by rfl) (si_rng1 (by rfl) z_range (sps_cons (se_bin or_add ok_add sz_int.p (cl c__law_draw hr (by decide) hgd (by rfl) (szs_cons (nZ 0 (by rfl) (.inr (.inl (by rfl)))) (szs_cons (nZ 1 (by rfl) (.inl (by rfl))) szs_nil))).p).p sps_nil)) (sg_name (pg_name (i := 5) sc__law_section.nd (by rfl) (.inl (by rfl)))) (ss_one (s1_app (pe_var (i := 4) (by rfl) (.inl (by rfl))) (b_tuple (by rfl) z_tuple (se_lc (own := [("column", 6)]) (by rfl) sc__law_section.nd (si_rng1 (by rfl) z_range (sps_cons (nP 3 (by rfl) (.inl (by rfl))) sps_nil)) (by rfl) (by rfl) (by decide) (fun _ _ _ _ _ => (sg_name (pg_name (i := 6) sc__law_section.nd (by rfl) (.inl (by rfl))))) (fun _ _ _ _ _ => sts_nil) (fun _ _ _ _ _ => (cl c__law_pick hr (by decide) hgd (by rfl) (szs_cons (nZ 0 (by rfl) (.inr (.inl (by rfl)))) (szs_cons (se_tup (ses_cons (se_bin op_sub ok_sub (cl c__law_draw hr (by decide) hgd (by rfl) (szs_cons (nZ 0 (by rfl) (.inr (.inl (by rfl)))) (szs_cons sz_int szs_nil))).p sz_int.p) (ses_cons (se_bin op_sub ok_sub (cl c__law_draw hr (by decide) hgd (by rfl) (szs_cons (nZ 0 (by rfl) (.inr (.inl (by rfl)))) (szs_cons sz_int szs_nil))).p sz_int.p) (ses_cons (se_bin op_sub ok_sub sz_int.p sz_int.p) ses_nil)))).z szs_nil))))).p))))
  (ss_one (s1_ret (se_tup (ses_cons sz_str.se (ses_cons (b_tuple (by rfl) z_tuple (nP 4 (by rfl) (.inl (by rfl)))) ses_nil)))))))))
/-! ### _law_profiles -/
abbrev sd__law_profiles : Stmt := topS 38
abbrev N__law_profiles : List Str := ["section", "benches", "found", "column", "longer", "depths", "depth"]
abbrev ps__law_profiles : List Str := ["section"]
theorem sc__law_profiles : FnScope N__law_profiles ps__law_profiles (defScope sd__law_profiles) := ⟨rfl, rfl, rfl, by decide +kernel, rfl, by decide +kernel, by decide +kernel⟩
theorem bp__law_profiles : BindP "_law_profiles" sd__law_profiles ps__law_profiles := fun _ _ _ _ _ _ us hl => match us, hl with | [_], _ => rfl
def F__law_profiles : SS := (sSeq (sPar 1 2 (aCons (fCl lenD (aCons (fBin ixD (fPk 0) (fC (.int 1))) aNil)) (aCons (fLst (aCons (fTup aNil) aNil)) aNil)))
  (sSeq (sFor (wRng1 (aCons (fCl lenD (aCons (fBin ixD (fBin ixD (fPk 0) (fC (.int 1))) (fC (.int 0))) aNil)) aNil)) (gN 3) (sSeq (sAsg 4 (fLst aNil))
  (sSeq (sFor (wSeq (fVar 2)) (gN 5) (sExt 4 (fZ (fComp (wRng1 (aCons (fBin addD (fPk 1) (fC (.int 1))) aNil)) (gN 6) (bOr (fB (fBin eqD (fPk 5) (fTup aNil))) (fB (fBin leD (fCl absD (aCons (fBin subD (fPk 6) (fBin ixD (fPk 5) (fUn negD (fC (.int 1))))) aNil)) (fC (.int 1))))) (fBin addD (fPk 5) (fTup (aCons (fVar 6) aNil))) [6]))))
  (sAsg 2 (fVar 4)))))
  (sRet (fMv 2))))
def m__law_profiles : FS := mkFn 7 1 F__law_profiles
theorem ok__law_profiles {P : Program} {w : World} {K : PySem.W.Frag} {mg : Str → Option Value} {base : Heap} (D : Df K mg "_law_profiles" sd__law_profiles) (z_len : mg "len" = none) (z_range : mg "range" = none) (z_abs : mg "abs" = none) : Cal P w K mg base "_law_profiles" sd__law_profiles 1 ps__law_profiles m__law_profiles := cal_mk (N := N__law_profiles) D sc__law_profiles bp__law_profiles (by decide) (fun f cdv A outer s H E hgd hr => by
  have hu := hr.units
  exact (ss_cons (s1_par (by rfl) sc__law_profiles.nd (by rfl) (by rfl) (by decide) (by rfl) (by rfl) (ses_cons (b_len (by rfl) z_len (se_ix or_ix ok_ix (nP 0 (by rfl) (.inl (by rfl))) sz_int.p (fun _ _ => rfl)).p) (ses_cons (se_lst (ses_cons (se_tup ses_nil) ses_nil)) ses_nil)) (by rfl))
  (ss_cons (s1_for PassesOwn.never (by rfl) (si_rng1 (by rfl) z_range (sps_cons (b_len (by rfl) z_len (se_ix or_ix ok_ix (se_ix or_ix ok_ix (nP 0 (by rfl) (.inl (by rfl))) sz_int.p (fun _ _ => rfl)).p sz_int.p (fun _ _ => rfl)).p).p sps_nil)) (sg_name (pg_name (i := 3) sc__law_profiles.nd (by rfl) (.inl (by rfl)))) (ss_cons (s1_asg sc__law_profiles.nd (by rfl) (.inl (by rfl)) (se_lst ses_nil))
  (ss_cons (s1_for PassesOwn.never (by rfl) (si_seq (nZ 2 (by rfl) (.inl (by rfl)))) (sg_name (pg_name (i := 5) sc__law_profiles.nd (by rfl) (.inr (by rfl)))) (ss_one (s1_ext (pe_var (i := 4) (by rfl) (.inl (by rfl))) (se_lc (own := [("depth", 6)]) (by rfl) sc__law_profiles.nd (si_rng1 (by rfl) z_range (sps_cons (se_bin or_add ok_add (nP 1 (by rfl) (.inl (by rfl))) sz_int.p).p sps_nil)) (by rfl) (by rfl) (by decide) (fun _ _ _ _ _ => (sg_name (pg_name (i := 6) sc__law_profiles.nd (by rfl) (.inl (by rfl))))) (fun _ _ _ _ _ => (sts_one (sw_or (st_cmp (or_eq hu) ok_eq (nP 5 (by rfl) (.inr (.inl (by rfl)))) (se_tup ses_nil).p (nomark _)) (sw_or1 (st_cmp op_le ok_cmp (b_abs (by rfl) z_abs (se_bin op_sub ok_sub (nP 6 (by rfl) (.inl (by rfl))) (se_ix or_ix ok_ix (nP 5 (by rfl) (.inr (.inl (by rfl)))) (se_un un_neg ok_neg sz_int.p).p (fun _ _ => rfl)).p).p).p sz_int.p (nomark _)))).st)) (fun _ _ _ _ _ => (se_bin or_add ok_add (nP 5 (by rfl) (.inr (.inl (by rfl)))) (se_tup (ses_cons (nZ 6 (by rfl) (.inl (by rfl))).se ses_nil)).p))).z)))
  (ss_one (s1_asg sc__law_profiles.nd (by rfl) (.inl (by rfl)) (nZ 4 (by rfl) (.inl (by rfl))).se)))))
  (ss_one (s1_ret (nM 2 (by rfl) (.inl (by rfl))))))))
/-! ### is_integer -/
abbrev sd_is_integer : Stmt := topS 1
abbrev N_is_integer : List Str := ["value"]
abbrev ps_is_integer : List Str := ["value"]
theorem sc_is_integer : FnScope N_is_integer ps_is_integer (defScope sd_is_integer) := ⟨rfl, rfl, rfl, by decide +kernel, rfl, by decide +kernel, by decide +kernel⟩
theorem bp_is_integer : BindP "is_integer" sd_is_integer ps_is_integer := fun _ _ _ _ _ _ us hl => match us, hl with | [_], _ => rfl
def F_is_integer : SS := (sRet (fAnd (fIsa "int" (fPk 0)) (fNot (fIsa "bool" (fPk 0)))))
def m_is_integer : FS := mkFn 1 1 F_is_integer
theorem ok_is_integer {P : Program} {w : World} {K : PySem.W.Frag} {mg : Str → Option Value} {base : Heap} (D : Df K mg "is_integer" sd_is_integer) (z_isinstance : mg "isinstance" = none) (z_bool : mg "bool" = none) (z_int : mg "int" = none) : Cal P w K mg base "is_integer" sd_is_integer 1 ps_is_integer m_is_integer := cal_mk (N := N_is_integer) D sc_is_integer bp_is_integer (by decide) (fun f cdv A outer s H E hgd hr => by
  have hu := hr.units
  exact (ss_one (s1_ret (se_and (isa_int (by rfl) z_isinstance (by rfl) z_int (nP 0 (by rfl) (.inl (by rfl)))).p (se_one (se_not (isa_bool (by rfl) z_isinstance (by rfl) z_bool (nP 0 (by rfl) (.inl (by rfl)))).p))))))
/-! ### bench_is_right -/
abbrev sd_bench_is_right : Stmt := topS 13
abbrev N_bench_is_right : List Str := ["value", "one"]
abbrev ps_bench_is_right : List Str := ["value"]
theorem sc_bench_is_right : FnScope N_bench_is_right ps_bench_is_right (defScope sd_bench_is_right) := ⟨rfl, rfl, rfl, by decide +kernel, rfl, by decide +kernel, by decide +kernel⟩
theorem bp_bench_is_right : BindP "bench_is_right" sd_bench_is_right ps_bench_is_right := fun _ _ _ _ _ _ us hl => match us, hl with | [_], _ => rfl
def F_bench_is_right : SS := (sSeq (sIf (bOr (bNot (fB (fIsa "tuple" (fPk 0)))) (bNot (fB (fChain leD leD (fC (.int 1)) (fCl lenD (aCons (fPk 0) aNil)) (fC (.int 5)))))) (sRet (fC (.bl false))) sNil)
  (sRet (fCl allD (aCons (fComp (wSeq (fVar 0)) (gN 1) bYes (fAnd (fCall m_is_integer (aCons (fVar 1) aNil)) (fBin leD (fCl absD (aCons (fPk 1) aNil)) (fC (.int 999)))) [1]) aNil))))
def m_bench_is_right : FS := mkFn 2 1 F_bench_is_right
theorem ok_bench_is_right {P : Program} {w : World} {K : PySem.W.Frag} {mg : Str → Option Value} {base : Heap} (D : Df K mg "bench_is_right" sd_bench_is_right) (c_is_integer : Cal P w K mg base "is_integer" sd_is_integer 1 ps_is_integer m_is_integer) (z_len : mg "len" = none) (z_isinstance : mg "isinstance" = none) (z_tuple : mg "tuple" = none) (z_abs : mg "abs" = none) (z_all : mg "all" = none) (g_MOST_COLUMNS : ∃ t, mg "MOST_COLUMNS" = some (.int 5 t)) (g_MOST_WORTH : ∃ t, mg "MOST_WORTH" = some (.int 999 t)) : Cal P w K mg base "bench_is_right" sd_bench_is_right 2 ps_bench_is_right m_bench_is_right := cal_mk (N := N_bench_is_right) D sc_bench_is_right bp_bench_is_right (by decide) (fun f cdv A outer s H E hgd hr => by
  have hu := hr.units
  exact (ss_cons (s1_if (sw_or (st_not (st_val (isa_tuple (by rfl) z_isinstance (by rfl) z_tuple (nP 0 (by rfl) (.inl (by rfl)))).p)) (sw_or1 (st_not (st_chain op_le ok_cmp op_le ok_cmp sz_int.p (b_len (by rfl) z_len (nP 0 (by rfl) (.inl (by rfl)))).p (sz_gj (by rfl) g_MOST_COLUMNS).p)))).st (ss_one (s1_ret sz_bl.se)) ss_nil)
  (ss_one (s1_ret (b_all (by rfl) (by rfl) z_all (se_lc (own := [("one", 1)]) (by rfl) sc_bench_is_right.nd (si_seq (nZ 0 (by rfl) (.inl (by rfl)))) (by rfl) (by rfl) (by decide) (fun _ _ _ _ _ => (sg_name (pg_name (i := 1) sc_bench_is_right.nd (by rfl) (.inl (by rfl))))) (fun _ _ _ _ _ => sts_nil) (fun _ _ _ _ _ => (se_and (cl c_is_integer hr (by decide) hgd (by rfl) (szs_cons (nZ 1 (by rfl) (.inl (by rfl))) szs_nil)).p (se_one (se_cmp op_le ok_cmp (b_abs (by rfl) z_abs (nP 1 (by rfl) (.inl (by rfl)))).p (sz_gj (by rfl) g_MOST_WORTH).p (nomark _)))))).p)))))
/-! ### section_is_right -/
abbrev sd_section_is_right : Stmt := topS 14
abbrev N_section_is_right : List Str := ["value", "one"]
abbrev ps_section_is_right : List Str := ["value"]
theorem sc_section_is_right : FnScope N_section_is_right ps_section_is_right (defScope sd_section_is_right) := ⟨rfl, rfl, rfl, by decide +kernel, rfl, by decide +kernel, by decide +kernel⟩
theorem bp_section_is_right : BindP "section_is_right" sd_section_is_right ps_section_is_right := fun _ _ _ _ _ _ us hl => match us, hl with | [_], _ => rfl
def F_section_is_right : SS := (sSeq (sIf (bOr (bNot (fB (fIsa "tuple" (fPk 0)))) (bOr (fB (fBin neD (fCl lenD (aCons (fPk 0) aNil)) (fC (.int 2)))) (bOr (bNot (fB (fIsa "str" (fBin ixD (fPk 0) (fC (.int 0)))))) (fB (fBin neD (fBin ixD (fPk 0) (fC (.int 0))) (fC (.str "section"))))))) (sRet (fC (.bl false))) sNil)
  (sSeq (sIf (bOr (bNot (fB (fIsa "tuple" (fBin ixD (fPk 0) (fC (.int 1)))))) (bNot (fB (fChain leD leD (fC (.int 1)) (fCl lenD (aCons (fBin ixD (fPk 0) (fC (.int 1))) aNil)) (fC (.int 4)))))) (sRet (fC (.bl false))) sNil)
  (sRet (fCl allD (aCons (fComp (wSeq (fZ (fBin ixD (fPk 0) (fC (.int 1))))) (gN 1) bYes (fAnd (fCall m_bench_is_right (aCons (fVar 1) aNil)) (fBin eqD (fCl lenD (aCons (fPk 1) aNil)) (fCl lenD (aCons (fBin ixD (fBin ixD (fPk 0) (fC (.int 1))) (fC (.int 0))) aNil)))) [1]) aNil)))))
def m_section_is_right : FS := mkFn 2 1 F_section_is_right
theorem ok_section_is_right {P : Program} {w : World} {K : PySem.W.Frag} {mg : Str → Option Value} {base : Heap} (D : Df K mg "section_is_right" sd_section_is_right) (c_bench_is_right : Cal P w K mg base "bench_is_right" sd_bench_is_right 2 ps_bench_is_right m_bench_is_right) (z_isinstance : mg "isinstance" = none) (z_str : mg "str" = none) (z_len : mg "len" = none) (z_tuple : mg "tuple" = none) (z_all : mg "all" = none) (g_MOST_BENCHES : ∃ t, mg "MOST_BENCHES" = some (.int 4 t)) : Cal P w K mg base "section_is_right" sd_section_is_right 3 ps_section_is_right m_section_is_right := cal_mk (N := N_section_is_right) D sc_section_is_right bp_section_is_right (by decide) (fun f cdv A outer s H E hgd hr => by
  have hu := hr.units
  exact (ss_cons (s1_if (sw_or (st_not (st_val (isa_tuple (by rfl) z_isinstance (by rfl) z_tuple (nP 0 (by rfl) (.inr (.inl (by rfl))))).p)) (sw_or (st_cmp (or_ne hu) ok_ne (b_len (by rfl) z_len (nP 0 (by rfl) (.inr (.inl (by rfl))))).p sz_int.p (nomark _)) (sw_or (st_not (st_val (isa_str (by rfl) z_isinstance (by rfl) z_str (se_ix or_ix ok_ix (nP 0 (by rfl) (.inr (.inl (by rfl)))) sz_int.p (fun _ _ => rfl)).p).p)) (sw_or1 (st_cmp (or_ne hu) ok_ne (se_ix or_ix ok_ix (nP 0 (by rfl) (.inr (.inl (by rfl)))) sz_int.p (fun _ _ => rfl)).p sz_str.p (nomark _)))))).st (ss_one (s1_ret sz_bl.se)) ss_nil)
  (ss_cons (s1_if (sw_or (st_not (st_val (isa_tuple (by rfl) z_isinstance (by rfl) z_tuple (se_ix or_ix ok_ix (nP 0 (by rfl) (.inr (.inl (by rfl)))) sz_int.p (fun _ _ => rfl)).p).p)) (sw_or1 (st_not (st_chain op_le ok_cmp op_le ok_cmp sz_int.p (b_len (by rfl) z_len (se_ix or_ix ok_ix (nP 0 (by rfl) (.inr (.inl (by rfl)))) sz_int.p (fun _ _ => rfl)).p).p (sz_gj (by rfl) g_MOST_BENCHES).p)))).st (ss_one (s1_ret sz_bl.se)) ss_nil)
  (ss_one (s1_ret (b_all (by rfl) (by rfl) z_all (se_lc (own := [("one", 1)]) (by rfl) sc_section_is_right.nd (si_seq (se_ix or_ix ok_ix (nP 0 (by rfl) (.inr (.inl (by rfl)))) sz_int.p (fun _ _ => rfl)).z) (by rfl) (by rfl) (by decide) (fun _ _ _ _ _ => (sg_name (pg_name (i := 1) sc_section_is_right.nd (by rfl) (.inl (by rfl))))) (fun _ _ _ _ _ => sts_nil) (fun _ _ _ _ _ => (se_and (cl c_bench_is_right hr (by decide) hgd (by rfl) (szs_cons (nZ 1 (by rfl) (.inl (by rfl))) szs_nil)).p (se_one (se_cmp (or_eq hu) ok_eq (b_len (by rfl) z_len (nP 1 (by rfl) (.inl (by rfl)))).p (b_len (by rfl) z_len (se_ix or_ix ok_ix (se_ix or_ix ok_ix (nP 0 (by rfl) (.inr (.inl (by rfl)))) sz_int.p (fun _ _ => rfl)).p sz_int.p (fun _ _ => rfl)).p).p (nomark _)))))).p))))))
/-! ### check_section -/
abbrev sd_check_section : Stmt := topS 25
abbrev N_check_section : List Str := ["section"]
abbrev ps_check_section : List Str := ["section"]
theorem sc_check_section : FnScope N_check_section ps_check_section (defScope sd_check_section) := ⟨rfl, rfl, rfl, by decide +kernel, rfl, by decide +kernel, by decide +kernel⟩
theorem bp_check_section : BindP "check_section" sd_check_section ps_check_section := fun _ _ _ _ _ _ us hl => match us, hl with | [_], _ => rfl
def F_check_section : SS := (sIf (bNot (fB (fCall m_section_is_right (aCons (fVar 0) aNil)))) sNo sNil)
def m_check_section : FS := mkFn 1 1 F_check_section
theorem ok_check_section {P : Program} {w : World} {K : PySem.W.Frag} {mg : Str → Option Value} {base : Heap} (D : Df K mg "check_section" sd_check_section) (c_section_is_right : Cal P w K mg base "section_is_right" sd_section_is_right 3 ps_section_is_right m_section_is_right) : Cal P w K mg base "check_section" sd_check_section 4 ps_check_section m_check_section := cal_mk (N := N_check_section) D sc_check_section bp_check_section (by decide) (fun f cdv A outer s H E hgd hr => by
  have hu := hr.units
  exact (ss_one (s1_if (st_not (st_val (cl c_section_is_right hr (by decide) hgd (by rfl) (szs_cons (nZ 0 (by rfl) (.inl (by rfl))) szs_nil)).p)) (ss_one s1_no) ss_nil)))
/-! ### columns_of -/
abbrev sd_columns_of : Stmt := topS 16
abbrev N_columns_of : List Str := ["section"]
abbrev ps_columns_of : List Str := ["section"]
theorem sc_columns_of : FnScope N_columns_of ps_columns_of (defScope sd_columns_of) := ⟨rfl, rfl, rfl, by decide +kernel, rfl, by decide +kernel, by decide +kernel⟩
theorem bp_columns_of : BindP "columns_of" sd_columns_of ps_columns_of := fun _ _ _ _ _ _ us hl => match us, hl with | [_], _ => rfl
def F_columns_of : SS := (sRet (fCl lenD (aCons (fBin ixD (fBin ixD (fPk 0) (fC (.int 1))) (fC (.int 0))) aNil)))
def m_columns_of : FS := mkFn 1 1 F_columns_of
theorem ok_columns_of {P : Program} {w : World} {K : PySem.W.Frag} {mg : Str → Option Value} {base : Heap} (D : Df K mg "columns_of" sd_columns_of) (z_len : mg "len" = none) : Cal P w K mg base "columns_of" sd_columns_of 1 ps_columns_of m_columns_of := cal_mk (N := N_columns_of) D sc_columns_of bp_columns_of (by decide) (fun f cdv A outer s H E hgd hr => by
  have hu := hr.units
  exact (ss_one (s1_ret (b_len (by rfl) z_len (se_ix or_ix ok_ix (se_ix or_ix ok_ix (nP 0 (by rfl) (.inl (by rfl))) sz_int.p (fun _ _ => rfl)).p sz_int.p (fun _ _ => rfl)).p))))
/-! ### benches_of -/
abbrev sd_benches_of : Stmt := topS 15
abbrev N_benches_of : List Str := ["section"]
abbrev ps_benches_of : List Str := ["section"]
theorem sc_benches_of : FnScope N_benches_of ps_benches_of (defScope sd_benches_of) := ⟨rfl, rfl, rfl, by decide +kernel, rfl, by decide +kernel, by decide +kernel⟩
theorem bp_benches_of : BindP "benches_of" sd_benches_of ps_benches_of := fun _ _ _ _ _ _ us hl => match us, hl with | [_], _ => rfl
def F_benches_of : SS := (sRet (fCl lenD (aCons (fBin ixD (fPk 0) (fC (.int 1))) aNil)))
def m_benches_of : FS := mkFn 1 1 F_benches_of
theorem ok_benches_of {P : Program} {w : World} {K : PySem.W.Frag} {mg : Str → Option Value} {base : Heap} (D : Df K mg "benches_of" sd_benches_of) (z_len : mg "len" = none) : Cal P w K mg base "benches_of" sd_benches_of 1 ps_benches_of m_benches_of := cal_mk (N := N_benches_of) D sc_benches_of bp_benches_of (by decide) (fun f cdv A outer s H E hgd hr => by
  have hu := hr.units
  exact (ss_one (s1_ret (b_len (by rfl) z_len (se_ix or_ix ok_ix (nP 0 (by rfl) (.inl (by rfl))) sz_int.p (fun _ _ => rfl)).p))))
/-! ### greatest_told -/
abbrev sd_greatest_told : Stmt := topS 19
abbrev N_greatest_told : List Str := ["some", "told", "one"]
abbrev ps_greatest_told : List Str := ["some"]
theorem sc_greatest_told : FnScope N_greatest_told ps_greatest_told (defScope sd_greatest_told) := ⟨rfl, rfl, rfl, by decide +kernel, rfl, by decide +kernel, by decide +kernel⟩
theorem bp_greatest_told : BindP "greatest_told" sd_greatest_told ps_greatest_told := fun _ _ _ _ _ _ us hl => match us, hl with | [_], _ => rfl
def F_greatest_told : SS := (sSeq (sAsg 1 (fComp (wSeq (fVar 0)) (gN 2) (fB (fBin notND (fPk 2) (fC .non))) (fVar 2) [2]))
  (sRet (fIf (fB (fBin neD (fPk 1) (fLst aNil))) (fCl (extD PySem.W.maxD) (aCons (fPk 1) aNil)) (fC .non))))
def m_greatest_told : FS := mkFn 3 1 F_greatest_told
theorem ok_greatest_told {P : Program} {w : World} {K : PySem.W.Frag} {mg : Str → Option Value} {base : Heap} (D : Df K mg "greatest_told" sd_greatest_told) (z_max : mg "max" = none) : Cal P w K mg base "greatest_told" sd_greatest_told 1 ps_greatest_told m_greatest_told := cal_mk (N := N_greatest_told) D sc_greatest_told bp_greatest_told (by decide) (fun f cdv A outer s H E hgd hr => by
  have hu := hr.units
  exact (ss_cons (s1_asgLc (own := [("one", 2)]) (by rfl) sc_greatest_told.nd (by rfl) (by rfl) (sw_true (by rfl) (by rfl) (by rfl) (by decide +kernel)) (si_seq (nZ 0 (by rfl) (.inl (by rfl)))) (by rfl) (by rfl) (by decide) (fun _ _ _ _ _ => (sg_name (pg_name (i := 2) sc_greatest_told.nd (by rfl) (.inl (by rfl))))) (fun _ _ _ _ _ => (sts_one (st_cmp op_notN ok_notN (nP 2 (by rfl) (.inl (by rfl))) sz_non.p (nomark _)))) (fun _ _ _ _ _ => (nZ 2 (by rfl) (.inl (by rfl))).se))
  (ss_one (s1_ret (se_if (st_cmp (or_ne hu) ok_ne (nP 1 (by rfl) (.inl (by rfl))) (se_lst ses_nil).p (nomark _)) (b_max1 (by rfl) hu (by rfl) z_max (nP 1 (by rfl) (.inl (by rfl)))) sz_non.se)))))
/-! ### depth_worth_by -/
abbrev sd_depth_worth_by : Stmt := topS 17
abbrev N_depth_worth_by : List Str := ["section", "column", "depth", "row"]
abbrev ps_depth_worth_by : List Str := ["section", "column", "depth"]
theorem sc_depth_worth_by : FnScope N_depth_worth_by ps_depth_worth_by (defScope sd_depth_worth_by) := ⟨rfl, rfl, rfl, by decide +kernel, rfl, by decide +kernel, by decide +kernel⟩
theorem bp_depth_worth_by : BindP "depth_worth_by" sd_depth_worth_by ps_depth_worth_by := fun _ _ _ _ _ _ us hl => match us, hl with | [_, _, _], _ => rfl
def F_depth_worth_by : SS := (sRet (fCl sumD (aCons (fComp (wSeq (fZ (fSl (fBin ixD (fPk 0) (fC (.int 1))) oNo (oE (fPk 2))))) (gN 3) bYes (fBin ixD (fPk 3) (fPk 1)) [3]) aNil)))
def m_depth_worth_by : FS := mkFn 4 3 F_depth_worth_by
theorem ok_depth_worth_by {P : Program} {w : World} {K : PySem.W.Frag} {mg : Str → Option Value} {base : Heap} (D : Df K mg "depth_worth_by" sd_depth_worth_by) (z_sum : mg "sum" = none) : Cal P w K mg base "depth_worth_by" sd_depth_worth_by 1 ps_depth_worth_by m_depth_worth_by := cal_mk (N := N_depth_worth_by) D sc_depth_worth_by bp_depth_worth_by (by decide) (fun f cdv A outer s H E hgd hr => by
  have hu := hr.units
  exact (ss_one (s1_ret (b_sum (by rfl) (by rfl) z_sum (se_lc (own := [("row", 3)]) (by rfl) sc_depth_worth_by.nd (si_seq (se_sl (se_ix or_ix ok_ix (nP 0 (by rfl) (.inl (by rfl))) sz_int.p (fun _ _ => rfl)).p so_no (so_e (nP 2 (by rfl) (.inl (by rfl))))).z) (by rfl) (by rfl) (by decide) (fun _ _ _ _ _ => (sg_name (pg_name (i := 3) sc_depth_worth_by.nd (by rfl) (.inl (by rfl))))) (fun _ _ _ _ _ => sts_nil) (fun _ _ _ _ _ => (se_ix or_ix ok_ix (nP 3 (by rfl) (.inl (by rfl))) (nP 1 (by rfl) (.inr (.inl (by rfl)))) (fun _ _ => rfl)))).p))))
/-! ### near_depths -/
abbrev sd_near_depths : Stmt := topS 18
abbrev N_near_depths : List Str := ["section", "depth", "one"]
abbrev ps_near_depths : List Str := ["section", "depth"]
theorem sc_near_depths : FnScope N_near_depths ps_near_depths (defScope sd_near_depths) := ⟨rfl, rfl, rfl, by decide +kernel, rfl, by decide +kernel, by decide +kernel⟩
theorem bp_near_depths : BindP "near_depths" sd_near_depths ps_near_depths := fun _ _ _ _ _ _ us hl => match us, hl with | [_, _], _ => rfl
def F_near_depths : SS := (sRet (fComp (wSeq (fZ (fTup (aCons (fBin subD (fPk 1) (fC (.int 1))) (aCons (fVar 1) (aCons (fBin addD (fPk 1) (fC (.int 1))) aNil)))))) (gN 2) (fB (fChain leD leD (fC (.int 0)) (fPk 2) (fCall m_benches_of (aCons (fVar 0) aNil)))) (fVar 2) [2]))
def m_near_depths : FS := mkFn 3 2 F_near_depths
theorem ok_near_depths {P : Program} {w : World} {K : PySem.W.Frag} {mg : Str → Option Value} {base : Heap} (D : Df K mg "near_depths" sd_near_depths) (c_benches_of : Cal P w K mg base "benches_of" sd_benches_of 1 ps_benches_of m_benches_of) : Cal P w K mg base "near_depths" sd_near_depths 2 ps_near_depths m_near_depths := cal_mk (N := N_near_depths) D sc_near_depths bp_near_depths (by decide) (fun f cdv A outer s H E hgd hr => by
  have hu := hr.units
  exact (ss_one (s1_ret (se_lc (own := [("one", 2)]) (by rfl) sc_near_depths.nd (si_seq (se_tup (ses_cons (se_bin op_sub ok_sub (nP 1 (by rfl) (.inl (by rfl))) sz_int.p) (ses_cons (nZ 1 (by rfl) (.inl (by rfl))).se (ses_cons (se_bin or_add ok_add (nP 1 (by rfl) (.inl (by rfl))) sz_int.p) ses_nil)))).z) (by rfl) (by rfl) (by decide) (fun _ _ _ _ _ => (sg_name (pg_name (i := 2) sc_near_depths.nd (by rfl) (.inl (by rfl))))) (fun _ _ _ _ _ => (sts_one (st_chain op_le ok_cmp op_le ok_cmp sz_int.p (nP 2 (by rfl) (.inl (by rfl))) (cl c_benches_of hr (by decide) hgd (by rfl) (szs_cons (nZ 0 (by rfl) (.inr (.inl (by rfl)))) szs_nil)).p))) (fun _ _ _ _ _ => (nZ 2 (by rfl) (.inl (by rfl))).se)))))
/-! ### table_by -/
abbrev sd_table_by : Stmt := topS 20
abbrev N_table_by : List Str := ["section", "column", "depth", "wide", "many", "found", "at", "row", "one", "later", "is_let", "near"]
abbrev ps_table_by : List Str := ["section", "column", "depth"]
theorem sc_table_by : FnScope N_table_by ps_table_by (defScope sd_table_by) := ⟨rfl, rfl, rfl, by decide +kernel, rfl, by decide +kernel, by decide +kernel⟩
theorem bp_table_by : BindP "table_by" sd_table_by ps_table_by := fun _ _ _ _ _ _ us hl => match us, hl with | [_, _, _], _ => rfl
def F_table_by : SS := (sSeq (sPar 3 4 (aCons (fCall m_columns_of (aCons (fVar 0) aNil)) (aCons (fBin addD (fCall m_benches_of (aCons (fVar 0) aNil)) (fC (.int 1))) aNil)))
  (sSeq (sAsg 5 (fLst aNil))
  (sSeq (sFor (wRng3 (aCons (fBin subD (fPk 3) (fC (.int 1))) (aCons (fUn negD (fC (.int 1))) (aCons (fUn negD (fC (.int 1))) aNil)))) (gN 6) (sSeq (sAsg 7 (fLst aNil))
  (sSeq (sFor (wRng1 (aCons (fPk 4) aNil)) (gN 8) (sSeq (sAsg 9 (fIf (fB (fBin eqD (fPk 5) (fLst aNil))) (fC (.int 0)) (fCall m_greatest_told (aCons (fZ (fComp (wSeq (fZ (fCall m_near_depths (aCons (fVar 0) (aCons (fVar 8) aNil))))) (gN 11) bYes (fBin ixD (fBin ixD (fPk 5) (fC (.int 0))) (fPk 11)) [11])) aNil))))
  (sSeq (sAsg 10 (fAnd (fBin notND (fPk 9) (fC .non)) (fOr (fBin neD (fPk 6) (fPk 1)) (fBin eqD (fPk 8) (fPk 2)))))
  (sApp 7 (fIf (fB (fPk 10)) (fBin addD (fCall m_depth_worth_by (aCons (fVar 0) (aCons (fVar 6) (aCons (fVar 8) aNil)))) (fPk 9)) (fC .non))))))
  (sAsg 5 (fBin addD (fLst (aCons (fVar 7) aNil)) (fPk 5))))))
  (sRet (fMv 5)))))
def m_table_by : FS := mkFn 12 3 F_table_by
theorem ok_table_by {P : Program} {w : World} {K : PySem.W.Frag} {mg : Str → Option Value} {base : Heap} (D : Df K mg "table_by" sd_table_by) (c_benches_of : Cal P w K mg base "benches_of" sd_benches_of 1 ps_benches_of m_benches_of) (c_columns_of : Cal P w K mg base "columns_of" sd_columns_of 1 ps_columns_of m_columns_of) (c_greatest_told : Cal P w K mg base "greatest_told" sd_greatest_told 1 ps_greatest_told m_greatest_told) (c_near_depths : Cal P w K mg base "near_depths" sd_near_depths 2 ps_near_depths m_near_depths) (c_depth_worth_by : Cal P w K mg base "depth_worth_by" sd_depth_worth_by 1 ps_depth_worth_by m_depth_worth_by) (z_range : mg "range" = none) : Cal P w K mg base "table_by" sd_table_by 3 ps_table_by m_table_by := cal_mk (N := N_table_by) D sc_table_by bp_table_by (by decide) (fun f cdv A outer s H E hgd hr => by
  have hu := hr.units
  exact (ss_cons (s1_par (by rfl) sc_table_by.nd (by rfl) (by rfl) (by decide) (by rfl) (by rfl) (ses_cons (cl c_columns_of hr (by decide) hgd (by rfl) (szs_cons (nZ 0 (by rfl) (.inl (by rfl))) szs_nil)) (ses_cons (se_bin or_add ok_add (cl c_benches_of hr (by decide) hgd (by rfl) (szs_cons (nZ 0 (by rfl) (.inl (by rfl))) szs_nil)).p sz_int.p) ses_nil)) (by rfl))
  (ss_cons (s1_asg sc_table_by.nd (by rfl) (.inr (by rfl)) (se_lst ses_nil))
  (ss_cons (s1_for PassesOwn.never (by rfl) (si_rng3 (by rfl) z_range (sps_cons (se_bin op_sub ok_sub (nP 3 (by rfl) (.inl (by rfl))) sz_int.p).p (sps_cons (se_un un_neg ok_neg sz_int.p).p (sps_cons (se_un un_neg ok_neg sz_int.p).p sps_nil)))) (sg_name (pg_name (i := 6) sc_table_by.nd (by rfl) (.inl (by rfl)))) (ss_cons (s1_asg sc_table_by.nd (by rfl) (.inl (by rfl)) (se_lst ses_nil))
  (ss_cons (s1_for PassesOwn.never (by rfl) (si_rng1 (by rfl) z_range (sps_cons (nP 4 (by rfl) (.inl (by rfl))) sps_nil)) (sg_name (pg_name (i := 8) sc_table_by.nd (by rfl) (.inl (by rfl)))) (ss_cons (s1_asg sc_table_by.nd (by rfl) (.inl (by rfl)) (se_if (st_cmp (or_eq hu) ok_eq (nP 5 (by rfl) (.inr (.inl (by rfl)))) (se_lst ses_nil).p (nomark _)) sz_int.se (cl c_greatest_told hr (by decide) hgd (by rfl) (szs_cons (se_lc (own := [("near", 11)]) (by rfl) sc_table_by.nd (si_seq (cl c_near_depths hr (by decide) hgd (by rfl) (szs_cons (nZ 0 (by rfl) (.inl (by rfl))) (szs_cons (nZ 8 (by rfl) (.inl (by rfl))) szs_nil))).z) (by rfl) (by rfl) (by decide) (fun _ _ _ _ _ => (sg_name (pg_name (i := 11) sc_table_by.nd (by rfl) (.inl (by rfl))))) (fun _ _ _ _ _ => sts_nil) (fun _ _ _ _ _ => (se_ix or_ix ok_ix (se_ix or_ix ok_ix (nP 5 (by rfl) (.inr (.inl (by rfl)))) sz_int.p (fun _ _ => rfl)).p (nP 11 (by rfl) (.inl (by rfl))) (fun _ _ => rfl)))).z szs_nil))))
  (ss_cons (s1_asg sc_table_by.nd (by rfl) (.inl (by rfl)) (se_and (se_cmp op_notN ok_notN (nP 9 (by rfl) (.inl (by rfl))) sz_non.p (nomark _)).p (se_one (se_or (se_cmp (or_ne hu) ok_ne (nP 6 (by rfl) (.inl (by rfl))) (nP 1 (by rfl) (.inl (by rfl))) (nomark _)).p (se_one (se_cmp (or_eq hu) ok_eq (nP 8 (by rfl) (.inl (by rfl))) (nP 2 (by rfl) (.inl (by rfl))) (nomark _)))))))
  (ss_one (s1_app (pe_var (i := 7) (by rfl) (.inl (by rfl))) (se_if (st_val (nP 10 (by rfl) (.inl (by rfl)))) (se_bin or_add ok_add (cl c_depth_worth_by hr (by decide) hgd (by rfl) (szs_cons (nZ 0 (by rfl) (.inl (by rfl))) (szs_cons (nZ 6 (by rfl) (.inl (by rfl))) (szs_cons (nZ 8 (by rfl) (.inl (by rfl))) szs_nil)))).p (nP 9 (by rfl) (.inl (by rfl)))) sz_non.se))))))
  (ss_one (s1_asg sc_table_by.nd (by rfl) (.inr (by rfl)) (se_bin or_add ok_add (se_lst (ses_cons (nZ 7 (by rfl) (.inl (by rfl))).se ses_nil)).p (nP 5 (by rfl) (.inr (.inl (by rfl))))))))))
  (ss_one (s1_ret (nM 5 (by rfl) (.inr (.inl (by rfl))))))))))
/-! ### best_by -/
abbrev sd_best_by : Stmt := topS 22
abbrev N_best_by : List Str := ["section"]
abbrev ps_best_by : List Str := ["section"]
theorem sc_best_by : FnScope N_best_by ps_best_by (defScope sd_best_by) := ⟨rfl, rfl, rfl, by decide +kernel, rfl, by decide +kernel, by decide +kernel⟩
theorem bp_best_by : BindP "best_by" sd_best_by ps_best_by := fun _ _ _ _ _ _ us hl => match us, hl with | [_], _ => rfl
def F_best_by : SS := (sRet (fCl (extD PySem.W.maxD) (aCons (fBin ixD (fCall m_table_by (aCons (fVar 0) (aCons (fC .non) (aCons (fC .non) aNil)))) (fC (.int 0))) aNil)))
def m_best_by : FS := mkFn 1 1 F_best_by
theorem ok_best_by {P : Program} {w : World} {K : PySem.W.Frag} {mg : Str → Option Value} {base : Heap} (D : Df K mg "best_by" sd_best_by) (c_table_by : Cal P w K mg base "table_by" sd_table_by 3 ps_table_by m_table_by) (z_max : mg "max" = none) : Cal P w K mg base "best_by" sd_best_by 4 ps_best_by m_best_by := cal_mk (N := N_best_by) D sc_best_by bp_best_by (by decide) (fun f cdv A outer s H E hgd hr => by
  have hu := hr.units
  exact (ss_one (s1_ret (b_max1 (by rfl) hu (by rfl) z_max (se_ix or_ix ok_ix (cl c_table_by hr (by decide) hgd (by rfl) (szs_cons (nZ 0 (by rfl) (.inl (by rfl))) (szs_cons sz_non (szs_cons sz_non szs_nil)))).p sz_int.p (fun _ _ => rfl)).p))))
/-! ### best_worth -/
abbrev sd_best_worth : Stmt := topS 28
abbrev N_best_worth : List Str := ["section"]
abbrev ps_best_worth : List Str := ["section"]
theorem sc_best_worth : FnScope N_best_worth ps_best_worth (defScope sd_best_worth) := ⟨rfl, rfl, rfl, by decide +kernel, rfl, by decide +kernel, by decide +kernel⟩
theorem bp_best_worth : BindP "best_worth" sd_best_worth ps_best_worth := fun _ _ _ _ _ _ us hl => match us, hl with | [_], _ => rfl
def F_best_worth : SS := (sSeq (sDrop (fCall m_check_section (aCons (fVar 0) aNil)))
  (sRet (fCall m_best_by (aCons (fVar 0) aNil))))
def m_best_worth : FS := mkFn 1 1 F_best_worth
theorem ok_best_worth {P : Program} {w : World} {K : PySem.W.Frag} {mg : Str → Option Value} {base : Heap} (D : Df K mg "best_worth" sd_best_worth) (c_check_section : Cal P w K mg base "check_section" sd_check_section 4 ps_check_section m_check_section) (c_best_by : Cal P w K mg base "best_by" sd_best_by 4 ps_best_by m_best_by) : Cal P w K mg base "best_worth" sd_best_worth 5 ps_best_worth m_best_worth := cal_mk (N := N_best_worth) D sc_best_worth bp_best_worth (by decide) (fun f cdv A outer s H E hgd hr => by
  have hu := hr.units
  exact (ss_cons (s1_expr (cl c_check_section hr (by decide) hgd (by rfl) (szs_cons (nZ 0 (by rfl) (.inl (by rfl))) szs_nil)).p)
  (ss_one (s1_ret (cl c_best_by hr (by decide) hgd (by rfl) (szs_cons (nZ 0 (by rfl) (.inl (by rfl))) szs_nil))))))
/-! ### _law_down -/
abbrev sd__law_down : Stmt := topS 39
abbrev N__law_down : List Str := ["section", "column", "depth", "bench"]
abbrev ps__law_down : List Str := ["section", "column", "depth"]
theorem sc__law_down : FnScope N__law_down ps__law_down (defScope sd__law_down) := ⟨rfl, rfl, rfl, by decide +kernel, rfl, by decide +kernel, by decide +kernel⟩
theorem bp__law_down : BindP "_law_down" sd__law_down ps__law_down := fun _ _ _ _ _ _ us hl => match us, hl with | [_, _, _], _ => rfl
def F__law_down : SS := (sRet (fCl sumD (aCons (fComp (wRng1 (aCons (fPk 2) aNil)) (gN 3) bYes (fBin ixD (fBin ixD (fBin ixD (fPk 0) (fC (.int 1))) (fPk 3)) (fPk 1)) [3]) aNil)))
def m__law_down : FS := mkFn 4 3 F__law_down
theorem ok__law_down {P : Program} {w : World} {K : PySem.W.Frag} {mg : Str → Option Value} {base : Heap} (D : Df K mg "_law_down" sd__law_down) (z_range : mg "range" = none) (z_sum : mg "sum" = none) : Cal P w K mg base "_law_down" sd__law_down 1 ps__law_down m__law_down := cal_mk (N := N__law_down) D sc__law_down bp__law_down (by decide) (fun f cdv A outer s H E hgd hr => by
  have hu := hr.units
  exact (ss_one (s1_ret (b_sum (by rfl) (by rfl) z_sum (se_lc (own := [("bench", 3)]) (by rfl) sc__law_down.nd (si_rng1 (by rfl) z_range (sps_cons (nP 2 (by rfl) (.inl (by rfl))) sps_nil)) (by rfl) (by rfl) (by decide) (fun _ _ _ _ _ => (sg_name (pg_name (i := 3) sc__law_down.nd (by rfl) (.inl (by rfl))))) (fun _ _ _ _ _ => sts_nil) (fun _ _ _ _ _ => (se_ix or_ix ok_ix (se_ix or_ix ok_ix (se_ix or_ix ok_ix (nP 0 (by rfl) (.inr (.inl (by rfl)))) sz_int.p (fun _ _ => rfl)).p (nP 3 (by rfl) (.inl (by rfl))) (fun _ _ => rfl)).p (nP 1 (by rfl) (.inr (.inl (by rfl)))) (fun _ _ => rfl)))).p))))
/-! ### _law_worth -/
abbrev sd__law_worth : Stmt := topS 40
abbrev N__law_worth : List Str := ["section", "profile", "column", "depth"]
abbrev ps__law_worth : List Str := ["section", "profile"]
theorem sc__law_worth : FnScope N__law_worth ps__law_worth (defScope sd__law_worth) := ⟨rfl, rfl, rfl, by decide +kernel, rfl, by decide +kernel, by decide +kernel⟩
theorem bp__law_worth : BindP "_law_worth" sd__law_worth ps__law_worth := fun _ _ _ _ _ _ us hl => match us, hl with | [_, _], _ => rfl
def F__law_worth : SS := (sRet (fCl sumD (aCons (fComp (wEnum (aCons (fVar 1) aNil)) (gTupS (gConsS (gN 2) (gConsS (gN 3) gNilS)) 2) bYes (fCall m__law_down (aCons (fVar 0) (aCons (fVar 2) (aCons (fVar 3) aNil)))) [2, 3]) aNil)))
def m__law_worth : FS := mkFn 4 2 F__law_worth
theorem ok__law_worth {P : Program} {w : World} {K : PySem.W.Frag} {mg : Str → Option Value} {base : Heap} (D : Df K mg "_law_worth" sd__law_worth) (c__law_down : Cal P w K mg base "_law_down" sd__law_down 1 ps__law_down m__law_down) (z_enumerate : mg "enumerate" = none) (z_sum : mg "sum" = none) : Cal P w K mg base "_law_worth" sd__law_worth 2 ps__law_worth m__law_worth := cal_mk (N := N__law_worth) D sc__law_worth bp__law_worth (by decide) (fun f cdv A outer s H E hgd hr => by
  have hu := hr.units
  exact (ss_one (s1_ret (b_sum (by rfl) (by rfl) z_sum (se_lc (own := [("column", 2), ("depth", 3)]) (by rfl) sc__law_worth.nd (si_enum (by rfl) z_enumerate (szs_cons (nZ 1 (by rfl) (.inl (by rfl))) szs_nil)) (by rfl) (by rfl) (by decide) (fun _ _ _ _ _ => (sg_tup (pg_tup (by rfl) (sgs_cons (sg_name (pg_name (i := 2) sc__law_worth.nd (by rfl) (.inl (by rfl)))) (sgs_cons (sg_name (pg_name (i := 3) sc__law_worth.nd (by rfl) (.inl (by rfl)))) sgs_nil (pgs_cons (sg_name (pg_name (i := 3) sc__law_worth.nd (by rfl) (.inl (by rfl)))) sgs_nil)) (pgs_cons (sg_name (pg_name (i := 2) sc__law_worth.nd (by rfl) (.inl (by rfl)))) (sgs_cons (sg_name (pg_name (i := 3) sc__law_worth.nd (by rfl) (.inl (by rfl)))) sgs_nil (pgs_cons (sg_name (pg_name (i := 3) sc__law_worth.nd (by rfl) (.inl (by rfl)))) sgs_nil))))))) (fun _ _ _ _ _ => sts_nil) (fun _ _ _ _ _ => (cl c__law_down hr (by decide) hgd (by rfl) (szs_cons (nZ 0 (by rfl) (.inr (.inl (by rfl)))) (szs_cons (nZ 2 (by rfl) (.inl (by rfl))) (szs_cons (nZ 3 (by rfl) (.inl (by rfl))) szs_nil)))))).p))))
/-! ### is_count -/
abbrev sd_is_count : Stmt := topS 2
abbrev N_is_count : List Str := ["value"]
abbrev ps_is_count : List Str := ["value"]
theorem sc_is_count : FnScope N_is_count ps_is_count (defScope sd_is_count) := ⟨rfl, rfl, rfl, by decide +kernel, rfl, by decide +kernel, by decide +kernel⟩
theorem bp_is_count : BindP "is_count" sd_is_count ps_is_count := fun _ _ _ _ _ _ us hl => match us, hl with | [_], _ => rfl
def F_is_count : SS := (sRet (fAnd (fCall m_is_integer (aCons (fVar 0) aNil)) (fBin geD (fPk 0) (fC (.int 0)))))
def m_is_count : FS := mkFn 1 1 F_is_count
theorem ok_is_count {P : Program} {w : World} {K : PySem.W.Frag} {mg : Str → Option Value} {base : Heap} (D : Df K mg "is_count" sd_is_count) (c_is_integer : Cal P w K mg base "is_integer" sd_is_integer 1 ps_is_integer m_is_integer) : Cal P w K mg base "is_count" sd_is_count 2 ps_is_count m_is_count := cal_mk (N := N_is_count) D sc_is_count bp_is_count (by decide) (fun f cdv A outer s H E hgd hr => by
  have hu := hr.units
  exact (ss_one (s1_ret (se_and (cl c_is_integer hr (by decide) hgd (by rfl) (szs_cons (nZ 0 (by rfl) (.inl (by rfl))) szs_nil)).p (se_one (se_cmp op_ge ok_cmp (nP 0 (by rfl) (.inl (by rfl))) sz_int.p (nomark _)))))))
/-! ### is_position -/
abbrev sd_is_position : Stmt := topS 3
abbrev N_is_position : List Str := ["value", "many"]
abbrev ps_is_position : List Str := ["value", "many"]
theorem sc_is_position : FnScope N_is_position ps_is_position (defScope sd_is_position) := ⟨rfl, rfl, rfl, by decide +kernel, rfl, by decide +kernel, by decide +kernel⟩
theorem bp_is_position : BindP "is_position" sd_is_position ps_is_position := fun _ _ _ _ _ _ us hl => match us, hl with | [_, _], _ => rfl
def F_is_position : SS := (sRet (fAnd (fCall m_is_count (aCons (fVar 0) aNil)) (fBin ltD (fPk 0) (fPk 1))))
def m_is_position : FS := mkFn 2 2 F_is_position
theorem ok_is_position {P : Program} {w : World} {K : PySem.W.Frag} {mg : Str → Option Value} {base : Heap} (D : Df K mg "is_position" sd_is_position) (c_is_count : Cal P w K mg base "is_count" sd_is_count 2 ps_is_count m_is_count) : Cal P w K mg base "is_position" sd_is_position 3 ps_is_position m_is_position := cal_mk (N := N_is_position) D sc_is_position bp_is_position (by decide) (fun f cdv A outer s H E hgd hr => by
  have hu := hr.units
  exact (ss_one (s1_ret (se_and (cl c_is_count hr (by decide) hgd (by rfl) (szs_cons (nZ 0 (by rfl) (.inl (by rfl))) szs_nil)).p (se_one (se_cmp op_lt ok_cmp (nP 0 (by rfl) (.inl (by rfl))) (nP 1 (by rfl) (.inl (by rfl))) (nomark _)))))))
/-! ### check_column -/
abbrev sd_check_column : Stmt := topS 26
abbrev N_check_column : List Str := ["section", "column"]
abbrev ps_check_column : List Str := ["section", "column"]
theorem sc_check_column : FnScope N_check_column ps_check_column (defScope sd_check_column) := ⟨rfl, rfl, rfl, by decide +kernel, rfl, by decide +kernel, by decide +kernel⟩
theorem bp_check_column : BindP "check_column" sd_check_column ps_check_column := fun _ _ _ _ _ _ us hl => match us, hl with | [_, _], _ => rfl
def F_check_column : SS := (sSeq (sDrop (fCall m_check_section (aCons (fVar 0) aNil)))
  (sIf (bNot (fB (fCall m_is_position (aCons (fVar 1) (aCons (fZ (fCall m_columns_of (aCons (fVar 0) aNil))) aNil))))) sNo sNil))
def m_check_column : FS := mkFn 2 2 F_check_column
theorem ok_check_column {P : Program} {w : World} {K : PySem.W.Frag} {mg : Str → Option Value} {base : Heap} (D : Df K mg "check_column" sd_check_column) (c_check_section : Cal P w K mg base "check_section" sd_check_section 4 ps_check_section m_check_section) (c_is_position : Cal P w K mg base "is_position" sd_is_position 3 ps_is_position m_is_position) (c_columns_of : Cal P w K mg base "columns_of" sd_columns_of 1 ps_columns_of m_columns_of) : Cal P w K mg base "check_column" sd_check_column 5 ps_check_column m_check_column := cal_mk (N := N_check_column) D sc_check_column bp_check_column (by decide) (fun f cdv A outer s H E hgd hr => by
  have hu := hr.units
  exact (ss_cons (s1_expr (cl c_check_section hr (by decide) hgd (by rfl) (szs_cons (nZ 0 (by rfl) (.inl (by rfl))) szs_nil)).p)
  (ss_one (s1_if (st_not (st_val (cl c_is_position hr (by decide) hgd (by rfl) (szs_cons (nZ 1 (by rfl) (.inl (by rfl))) (szs_cons (cl c_columns_of hr (by decide) hgd (by rfl) (szs_cons (nZ 0 (by rfl) (.inl (by rfl))) szs_nil)).z szs_nil))).p)) (ss_one s1_no) ss_nil))))
/-! ### check_place -/
abbrev sd_check_place : Stmt := topS 27
abbrev N_check_place : List Str := ["section", "column", "depth"]
abbrev ps_check_place : List Str := ["section", "column", "depth"]
theorem sc_check_place : FnScope N_check_place ps_check_place (defScope sd_check_place) := ⟨rfl, rfl, rfl, by decide +kernel, rfl, by decide +kernel, by decide +kernel⟩
theorem bp_check_place : BindP "check_place" sd_check_place ps_check_place := fun _ _ _ _ _ _ us hl => match us, hl with | [_, _, _], _ => rfl
def F_check_place : SS := (sSeq (sDrop (fCall m_check_column (aCons (fVar 0) (aCons (fVar 1) aNil))))
  (sIf (bOr (bNot (fB (fCall m_is_count (aCons (fVar 2) aNil)))) (fB (fBin gtD (fPk 2) (fCall m_benches_of (aCons (fVar 0) aNil))))) sNo sNil))
def m_check_place : FS := mkFn 3 3 F_check_place
theorem ok_check_place {P : Program} {w : World} {K : PySem.W.Frag} {mg : Str → Option Value} {base : Heap} (D : Df K mg "check_place" sd_check_place) (c_check_column : Cal P w K mg base "check_column" sd_check_column 5 ps_check_column m_check_column) (c_benches_of : Cal P w K mg base "benches_of" sd_benches_of 1 ps_benches_of m_benches_of) (c_is_count : Cal P w K mg base "is_count" sd_is_count 2 ps_is_count m_is_count) : Cal P w K mg base "check_place" sd_check_place 6 ps_check_place m_check_place := cal_mk (N := N_check_place) D sc_check_place bp_check_place (by decide) (fun f cdv A outer s H E hgd hr => by
  have hu := hr.units
  exact (ss_cons (s1_expr (cl c_check_column hr (by decide) hgd (by rfl) (szs_cons (nZ 0 (by rfl) (.inl (by rfl))) (szs_cons (nZ 1 (by rfl) (.inl (by rfl))) szs_nil))).p)
  (ss_one (s1_if (sw_or (st_not (st_val (cl c_is_count hr (by decide) hgd (by rfl) (szs_cons (nZ 2 (by rfl) (.inl (by rfl))) szs_nil)).p)) (sw_or1 (st_cmp op_gt ok_cmp (nP 2 (by rfl) (.inl (by rfl))) (cl c_benches_of hr (by decide) hgd (by rfl) (szs_cons (nZ 0 (by rfl) (.inl (by rfl))) szs_nil)).p (nomark _)))).st (ss_one s1_no) ss_nil))))
/-! ### through_by -/
abbrev sd_through_by : Stmt := topS 23
abbrev N_through_by : List Str := ["section", "column", "depth"]
abbrev ps_through_by : List Str := ["section", "column", "depth"]
theorem sc_through_by : FnScope N_through_by ps_through_by (defScope sd_through_by) := ⟨rfl, rfl, rfl, by decide +kernel, rfl, by decide +kernel, by decide +kernel⟩
theorem bp_through_by : BindP "through_by" sd_through_by ps_through_by := fun _ _ _ _ _ _ us hl => match us, hl with | [_, _, _], _ => rfl
def F_through_by : SS := (sRet (fCall m_greatest_told (aCons (fZ (fBin ixD (fCall m_table_by (aCons (fVar 0) (aCons (fVar 1) (aCons (fVar 2) aNil)))) (fC (.int 0)))) aNil)))
def m_through_by : FS := mkFn 3 3 F_through_by
theorem ok_through_by {P : Program} {w : World} {K : PySem.W.Frag} {mg : Str → Option Value} {base : Heap} (D : Df K mg "through_by" sd_through_by) (c_greatest_told : Cal P w K mg base "greatest_told" sd_greatest_told 1 ps_greatest_told m_greatest_told) (c_table_by : Cal P w K mg base "table_by" sd_table_by 3 ps_table_by m_table_by) : Cal P w K mg base "through_by" sd_through_by 4 ps_through_by m_through_by := cal_mk (N := N_through_by) D sc_through_by bp_through_by (by decide) (fun f cdv A outer s H E hgd hr => by
  have hu := hr.units
  exact (ss_one (s1_ret (cl c_greatest_told hr (by decide) hgd (by rfl) (szs_cons (se_ix or_ix ok_ix (cl c_table_by hr (by decide) hgd (by rfl) (szs_cons (nZ 0 (by rfl) (.inl (by rfl))) (szs_cons (nZ 1 (by rfl) (.inl (by rfl))) (szs_cons (nZ 2 (by rfl) (.inl (by rfl))) szs_nil)))).p sz_int.p (fun _ _ => rfl)).z szs_nil)))))
/-! ### worth_through -/
abbrev sd_worth_through : Stmt := topS 29
abbrev N_worth_through : List Str := ["section", "column", "depth"]
abbrev ps_worth_through : List Str := ["section", "column", "depth"]
theorem sc_worth_through : FnScope N_worth_through ps_worth_through (defScope sd_worth_through) := ⟨rfl, rfl, rfl, by decide +kernel, rfl, by decide +kernel, by decide +kernel⟩
theorem bp_worth_through : BindP "worth_through" sd_worth_through ps_worth_through := fun _ _ _ _ _ _ us hl => match us, hl with | [_, _, _], _ => rfl
theorem kb_worth_through_0_depth_column_section : BindK "worth_through" sd_worth_through ps_worth_through ["depth", "column", "section"] 0 [2, 1, 0] := fun _ _ _ _ _ _ us ws h1 h2 => match us, ws, h1, h2 with | [], [_, _, _], _, _ => rfl
def F_worth_through : SS := (sSeq (sDrop (fCall m_check_place (aCons (fVar 0) (aCons (fVar 1) (aCons (fVar 2) aNil)))))
  (sRet (fCall m_through_by (aCons (fVar 0) (aCons (fVar 1) (aCons (fVar 2) aNil))))))
def m_worth_through : FS := mkFn 3 3 F_worth_through
theorem ok_worth_through {P : Program} {w : World} {K : PySem.W.Frag} {mg : Str → Option Value} {base : Heap} (D : Df K mg "worth_through" sd_worth_through) (c_check_place : Cal P w K mg base "check_place" sd_check_place 6 ps_check_place m_check_place) (c_through_by : Cal P w K mg base "through_by" sd_through_by 4 ps_through_by m_through_by) : Cal P w K mg base "worth_through" sd_worth_through 7 ps_worth_through m_worth_through := cal_mk (N := N_worth_through) D sc_worth_through bp_worth_through (by decide) (fun f cdv A outer s H E hgd hr => by
  have hu := hr.units
  exact (ss_cons (s1_expr (cl c_check_place hr (by decide) hgd (by rfl) (szs_cons (nZ 0 (by rfl) (.inl (by rfl))) (szs_cons (nZ 1 (by rfl) (.inl (by rfl))) (szs_cons (nZ 2 (by rfl) (.inl (by rfl))) szs_nil)))).p)
  (ss_one (s1_ret (cl c_through_by hr (by decide) hgd (by rfl) (szs_cons (nZ 0 (by rfl) (.inl (by rfl))) (szs_cons (nZ 1 (by rfl) (.inl (by rfl))) (szs_cons (nZ 2 (by rfl) (.inl (by rfl))) szs_nil))))))))
/-! ### read_by -/
abbrev sd_read_by : Stmt := topS 21
abbrev N_read_by : List Str := ["section", "table", "is_deep", "found", "row", "depths", "most", "near", "one"]
abbrev ps_read_by : List Str := ["section", "table", "is_deep"]
theorem sc_read_by : FnScope N_read_by ps_read_by (defScope sd_read_by) := ⟨rfl, rfl, rfl, by decide +kernel, rfl, by decide +kernel, by decide +kernel⟩
theorem bp_read_by : BindP "read_by" sd_read_by ps_read_by := fun _ _ _ _ _ _ us hl => match us, hl with | [_, _, _], _ => rfl
def F_read_by : SS := (sSeq (sAsg 3 (fLst aNil))
  (sSeq (sFor (wSeq (fVar 1)) (gN 4) (sSeq (sAsg 5 (fIf (fB (fBin neD (fPk 3) (fLst aNil))) (fCall m_near_depths (aCons (fVar 0) (aCons (fZ (fBin ixD (fPk 3) (fUn negD (fC (.int 1))))) aNil))) (fLrg1 (fCl lenD (aCons (fPk 4) aNil)))))
  (sSeq (sAsg 6 (fCall m_greatest_told (aCons (fZ (fComp (wSeq (fVar 5)) (gN 7) bYes (fBin ixD (fPk 4) (fPk 7)) [7])) aNil)))
  (sSeq (sAsg 5 (fComp (wSeq (fVar 5)) (gN 8) (bAnd (fB (fBin notND (fBin ixD (fPk 4) (fPk 8)) (fC .non))) (fB (fBin eqD (fBin ixD (fPk 4) (fPk 8)) (fPk 6)))) (fVar 8) [8]))
  (sApp 3 (fIf (fB (fPk 2)) (fBin ixD (fPk 5) (fUn negD (fC (.int 1)))) (fBin ixD (fPk 5) (fC (.int 0)))))))))
  (sRet (fCl tupD (aCons (fPk 3) aNil)))))
def m_read_by : FS := mkFn 9 3 F_read_by
theorem ok_read_by {P : Program} {w : World} {K : PySem.W.Frag} {mg : Str → Option Value} {base : Heap} (D : Df K mg "read_by" sd_read_by) (c_near_depths : Cal P w K mg base "near_depths" sd_near_depths 2 ps_near_depths m_near_depths) (c_greatest_told : Cal P w K mg base "greatest_told" sd_greatest_told 1 ps_greatest_told m_greatest_told) (z_len : mg "len" = none) (z_list : mg "list" = none) (z_range : mg "range" = none) (z_tuple : mg "tuple" = none) : Cal P w K mg base "read_by" sd_read_by 3 ps_read_by m_read_by := cal_mk (N := N_read_by) D sc_read_by bp_read_by (by decide) (fun f cdv A outer s H E hgd hr => by
  have hu := hr.units
  exact (ss_cons (s1_asg sc_read_by.nd (by rfl) (.inl (by rfl)) (se_lst ses_nil))
  (ss_cons (s1_for PassesOwn.never (by rfl) (si_seq (nZ 1 (by rfl) (.inl (by rfl)))) (sg_name (pg_name (i := 4) sc_read_by.nd (by rfl) (.inr (by rfl)))) (ss_cons (s1_asg sc_read_by.nd (by rfl) (.inl (by rfl)) (se_if (st_cmp (or_ne hu) ok_ne (nP 3 (by rfl) (.inl (by rfl))) (se_lst ses_nil).p (nomark _)) (cl c_near_depths hr (by decide) hgd (by rfl) (szs_cons (nZ 0 (by rfl) (.inl (by rfl))) (szs_cons (se_ix or_ix ok_ix (nP 3 (by rfl) (.inl (by rfl))) (se_un un_neg ok_neg sz_int.p).p (fun _ _ => rfl)).z szs_nil))) (se_lrg1 (by rfl) (by rfl) z_list (by rfl) z_range (b_len (by rfl) z_len (nP 4 (by rfl) (.inr (.inl (by rfl))))).p)))
  (ss_cons (s1_asg sc_read_by.nd (by rfl) (.inr (by rfl)) (cl c_greatest_told hr (by decide) hgd (by rfl) (szs_cons (se_lc (own := [("near", 7)]) (by rfl) sc_read_by.nd (si_seq (nZ 5 (by rfl) (.inl (by rfl)))) (by rfl) (by rfl) (by decide) (fun _ _ _ _ _ => (sg_name (pg_name (i := 7) sc_read_by.nd (by rfl) (.inl (by rfl))))) (fun _ _ _ _ _ => sts_nil) (fun _ _ _ _ _ => (se_ix or_ix ok_ix (nP 4 (by rfl) (.inr (.inl (by rfl)))) (nP 7 (by rfl) (.inl (by rfl))) (fun _ _ => rfl)))).z szs_nil)))
  (ss_cons (s1_asgLc (own := [("one", 8)]) (by rfl) sc_read_by.nd (by rfl) (by rfl) (sw_true (by rfl) (by rfl) (by rfl) (by decide +kernel)) (si_seq (nZ 5 (by rfl) (.inl (by rfl)))) (by rfl) (by rfl) (by decide) (fun _ _ _ _ _ => (sg_name (pg_name (i := 8) sc_read_by.nd (by rfl) (.inl (by rfl))))) (fun _ _ _ _ _ => (sts_one (sw_and (st_cmp op_notN ok_notN (se_ix or_ix ok_ix (nP 4 (by rfl) (.inr (.inl (by rfl)))) (nP 8 (by rfl) (.inl (by rfl))) (fun _ _ => rfl)).p sz_non.p (nomark _)) (sw_and1 (st_cmp (or_eq hu) ok_eq (se_ix or_ix ok_ix (nP 4 (by rfl) (.inr (.inl (by rfl)))) (nP 8 (by rfl) (.inl (by rfl))) (fun _ _ => rfl)).p (nP 6 (by rfl) (.inr (.inl (by rfl)))) (nomark _)))).st)) (fun _ _ _ _ _ => (nZ 8 (by rfl) (.inl (by rfl))).se))
  (ss_one (s1_app (pe_var (i := 3) (by rfl) (.inl (by rfl))) (se_if (st_val (nP 2 (by rfl) (.inl (by rfl)))) (se_ix or_ix ok_ix (nP 5 (by rfl) (.inl (by rfl))) (se_un un_neg ok_neg sz_int.p).p (fun _ _ => rfl)) (se_ix or_ix ok_ix (nP 5 (by rfl) (.inl (by rfl))) sz_int.p (fun _ _ => rfl)))))))))
  (ss_one (s1_ret (b_tuple (by rfl) z_tuple (nP 3 (by rfl) (.inl (by rfl)))))))))
/-! ### profile_through -/
abbrev sd_profile_through : Stmt := topS 30
abbrev N_profile_through : List Str := ["section", "column", "depth"]
abbrev ps_profile_through : List Str := ["section", "column", "depth"]
theorem sc_profile_through : FnScope N_profile_through ps_profile_through (defScope sd_profile_through) := ⟨rfl, rfl, rfl, by decide +kernel, rfl, by decide +kernel, by decide +kernel⟩
theorem bp_profile_through : BindP "profile_through" sd_profile_through ps_profile_through := fun _ _ _ _ _ _ us hl => match us, hl with | [_, _, _], _ => rfl
theorem kb_profile_through_0_depth_column_section : BindK "profile_through" sd_profile_through ps_profile_through ["depth", "column", "section"] 0 [2, 1, 0] := fun _ _ _ _ _ _ us ws h1 h2 => match us, ws, h1, h2 with | [], [_, _, _], _, _ => rfl
def F_profile_through : SS := (sSeq (sDrop (fCall m_check_place (aCons (fVar 0) (aCons (fVar 1) (aCons (fVar 2) aNil)))))
  (sRet (fCall m_read_by (aCons (fVar 0) (aCons (fZ (fCall m_table_by (aCons (fVar 0) (aCons (fVar 1) (aCons (fVar 2) aNil))))) (aCons (fC (.bl false)) aNil))))))
def m_profile_through : FS := mkFn 3 3 F_profile_through
theorem ok_profile_through {P : Program} {w : World} {K : PySem.W.Frag} {mg : Str → Option Value} {base : Heap} (D : Df K mg "profile_through" sd_profile_through) (c_check_place : Cal P w K mg base "check_place" sd_check_place 6 ps_check_place m_check_place) (c_read_by : Cal P w K mg base "read_by" sd_read_by 3 ps_read_by m_read_by) (c_table_by : Cal P w K mg base "table_by" sd_table_by 3 ps_table_by m_table_by) : Cal P w K mg base "profile_through" sd_profile_through 7 ps_profile_through m_profile_through := cal_mk (N := N_profile_through) D sc_profile_through bp_profile_through (by decide) (fun f cdv A outer s H E hgd hr => by
  have hu := hr.units
  exact (ss_cons (s1_expr (cl c_check_place hr (by decide) hgd (by rfl) (szs_cons (nZ 0 (by rfl) (.inl (by rfl))) (szs_cons (nZ 1 (by rfl) (.inl (by rfl))) (szs_cons (nZ 2 (by rfl) (.inl (by rfl))) szs_nil)))).p)
  (ss_one (s1_ret (cl c_read_by hr (by decide) hgd (by rfl) (szs_cons (nZ 0 (by rfl) (.inl (by rfl))) (szs_cons (cl c_table_by hr (by decide) hgd (by rfl) (szs_cons (nZ 0 (by rfl) (.inl (by rfl))) (szs_cons (nZ 1 (by rfl) (.inl (by rfl))) (szs_cons (nZ 2 (by rfl) (.inl (by rfl))) szs_nil)))).z (szs_cons sz_bl szs_nil))))))))
/-! ### loss -/
abbrev sd_loss : Stmt := topS 31
abbrev N_loss : List Str := ["section", "column", "depth"]
abbrev ps_loss : List Str := ["section", "column", "depth"]
theorem sc_loss : FnScope N_loss ps_loss (defScope sd_loss) := ⟨rfl, rfl, rfl, by decide +kernel, rfl, by decide +kernel, by decide +kernel⟩
theorem bp_loss : BindP "loss" sd_loss ps_loss := fun _ _ _ _ _ _ us hl => match us, hl with | [_, _, _], _ => rfl
theorem kb_loss_0_depth_column_section : BindK "loss" sd_loss ps_loss ["depth", "column", "section"] 0 [2, 1, 0] := fun _ _ _ _ _ _ us ws h1 h2 => match us, ws, h1, h2 with | [], [_, _, _], _, _ => rfl
def F_loss : SS := (sSeq (sDrop (fCall m_check_place (aCons (fVar 0) (aCons (fVar 1) (aCons (fVar 2) aNil)))))
  (sRet (fBin subD (fCall m_best_by (aCons (fVar 0) aNil)) (fCall m_through_by (aCons (fVar 0) (aCons (fVar 1) (aCons (fVar 2) aNil)))))))
def m_loss : FS := mkFn 3 3 F_loss
theorem ok_loss {P : Program} {w : World} {K : PySem.W.Frag} {mg : Str → Option Value} {base : Heap} (D : Df K mg "loss" sd_loss) (c_check_place : Cal P w K mg base "check_place" sd_check_place 6 ps_check_place m_check_place) (c_best_by : Cal P w K mg base "best_by" sd_best_by 4 ps_best_by m_best_by) (c_through_by : Cal P w K mg base "through_by" sd_through_by 4 ps_through_by m_through_by) : Cal P w K mg base "loss" sd_loss 7 ps_loss m_loss := cal_mk (N := N_loss) D sc_loss bp_loss (by decide) (fun f cdv A outer s H E hgd hr => by
  have hu := hr.units
  exact (ss_cons (s1_expr (cl c_check_place hr (by decide) hgd (by rfl) (szs_cons (nZ 0 (by rfl) (.inl (by rfl))) (szs_cons (nZ 1 (by rfl) (.inl (by rfl))) (szs_cons (nZ 2 (by rfl) (.inl (by rfl))) szs_nil)))).p)
  (ss_one (s1_ret (se_bin op_sub ok_sub (cl c_best_by hr (by decide) hgd (by rfl) (szs_cons (nZ 0 (by rfl) (.inl (by rfl))) szs_nil)).p (cl c_through_by hr (by decide) hgd (by rfl) (szs_cons (nZ 0 (by rfl) (.inl (by rfl))) (szs_cons (nZ 1 (by rfl) (.inl (by rfl))) (szs_cons (nZ 2 (by rfl) (.inl (by rfl))) szs_nil)))).p)))))
/-! ### _law_same -/
abbrev sd__law_same : Stmt := topS 36
abbrev N__law_same : List Str := ["told", "due", "near", "far"]
abbrev ps__law_same : List Str := ["told", "due"]
theorem sc__law_same : FnScope N__law_same ps__law_same (defScope sd__law_same) := ⟨rfl, rfl, rfl, by decide +kernel, rfl, by decide +kernel, by decide +kernel⟩
theorem bp__law_same : BindP "_law_same" sd__law_same ps__law_same := fun _ _ _ _ _ _ us hl => match us, hl with | [_, _], _ => rfl
def F__law_same (m : FS) : SS := (sSeq (sIf (fB (fBin isND (fPk 1) (fC .non))) (sRet (fBin isND (fPk 0) (fC .non))) sNil)
  (sSeq (sIf (fB (fIsa "bool" (fPk 1))) (sRet (fAnd (fIsa "bool" (fPk 0)) (fBin eqD (fPk 0) (fPk 1)))) sNil)
  (sSeq (sIf (fB (fIsa "str" (fPk 1))) (sRet (fAnd (fIsa "str" (fPk 0)) (fBin eqD (fPk 0) (fPk 1)))) sNil)
  (sSeq (sIf (fB (fIsa "int" (fPk 1))) (sRet (fAnd (fIsa "int" (fPk 0)) (fAnd (fNot (fIsa "bool" (fPk 0))) (fBin eqD (fPk 0) (fPk 1))))) sNil)
  (sSeq (sIf (fB (fIsa "tuple" (fPk 1))) (sSeq (sIf (bOr (bNot (fB (fIsa "tuple" (fPk 0)))) (fB (fBin neD (fCl lenD (aCons (fPk 0) aNil)) (fCl lenD (aCons (fPk 1) aNil))))) (sRet (fC (.bl false))) sNil)
  (sRet (fCl allD (aCons (fComp (wZip (aCons (fVar 0) (aCons (fVar 1) aNil))) (gTupS (gConsS (gN 2) (gConsS (gN 3) gNilS)) 2) bYes (fCall m (aCons (fVar 2) (aCons (fVar 3) aNil))) [2, 3]) aNil)))) sNil)
  (sSeq (sIf (fB (fIsa "list" (fPk 1))) (sSeq (sIf (bOr (bNot (fB (fIsa "list" (fPk 0)))) (fB (fBin neD (fCl lenD (aCons (fPk 0) aNil)) (fCl lenD (aCons (fPk 1) aNil))))) (sRet (fC (.bl false))) sNil)
  (sRet (fCl allD (aCons (fComp (wZip (aCons (fVar 0) (aCons (fVar 1) aNil))) (gTupS (gConsS (gN 2) (gConsS (gN 3) gNilS)) 2) bYes (fCall m (aCons (fVar 2) (aCons (fVar 3) aNil))) [2, 3]) aNil)))) sNil)
  (sRet (fBin eqD (fPk 0) (fPk 1)))))))))
def m__law_same_n : Nat → FS
  | 0 => fun _ _ => none
  | n + 1 => mkFn 4 2 (F__law_same (m__law_same_n n))
def m__law_same : FS := m__law_same_n 8
theorem ok__law_same_n {P : Program} {w : World} {K : PySem.W.Frag} {mg : Str → Option Value} {base : Heap} (D : Df K mg "_law_same" sd__law_same) (z_isinstance : mg "isinstance" = none) (z_bool : mg "bool" = none) (z_str : mg "str" = none) (z_int : mg "int" = none) (z_tuple : mg "tuple" = none) (z_len : mg "len" = none) (z_zip : mg "zip" = none) (z_all : mg "all" = none) (z_list : mg "list" = none) (n : Nat) : Cal P w K mg base "_law_same" sd__law_same (0 + n) ps__law_same (m__law_same_n n) := by
  induction n with
  | zero => exact cal_none D bp__law_same
  | succ n c__law_same => exact cal_mk (N := N__law_same) (k := 0 + n) (body := F__law_same (m__law_same_n n)) D sc__law_same bp__law_same (by decide) (fun f cdv A outer s H E hgd hr => by
  have hu := hr.units
  exact (ss_cons (s1_if (st_cmp op_isN ok_isN (nP 1 (by rfl) (.inl (by rfl))) sz_non.p (nomark _)) (ss_one (s1_ret (se_cmp op_isN ok_isN (nP 0 (by rfl) (.inl (by rfl))) sz_non.p (nomark _)))) ss_nil)
  (ss_cons (s1_if (st_val (isa_bool (by rfl) z_isinstance (by rfl) z_bool (nP 1 (by rfl) (.inl (by rfl)))).p) (ss_one (s1_ret (se_and (isa_bool (by rfl) z_isinstance (by rfl) z_bool (nP 0 (by rfl) (.inl (by rfl)))).p (se_one (se_cmp (or_eq hu) ok_eq (nP 0 (by rfl) (.inl (by rfl))) (nP 1 (by rfl) (.inl (by rfl))) (nomark _)))))) ss_nil)
  (ss_cons (s1_if (st_val (isa_str (by rfl) z_isinstance (by rfl) z_str (nP 1 (by rfl) (.inl (by rfl)))).p) (ss_one (s1_ret (se_and (isa_str (by rfl) z_isinstance (by rfl) z_str (nP 0 (by rfl) (.inl (by rfl)))).p (se_one (se_cmp (or_eq hu) ok_eq (nP 0 (by rfl) (.inl (by rfl))) (nP 1 (by rfl) (.inl (by rfl))) (nomark _)))))) ss_nil)
  (ss_cons (s1_if (st_val (isa_int (by rfl) z_isinstance (by rfl) z_int (nP 1 (by rfl) (.inl (by rfl)))).p) (ss_one (s1_ret (se_and (isa_int (by rfl) z_isinstance (by rfl) z_int (nP 0 (by rfl) (.inl (by rfl)))).p (se_and (se_not (isa_bool (by rfl) z_isinstance (by rfl) z_bool (nP 0 (by rfl) (.inl (by rfl)))).p).p (se_one (se_cmp (or_eq hu) ok_eq (nP 0 (by rfl) (.inl (by rfl))) (nP 1 (by rfl) (.inl (by rfl))) (nomark _))))))) ss_nil)
  (ss_cons (s1_if (st_val (isa_tuple (by rfl) z_isinstance (by rfl) z_tuple (nP 1 (by rfl) (.inl (by rfl)))).p) (ss_cons (s1_if (sw_or (st_not (st_val (isa_tuple (by rfl) z_isinstance (by rfl) z_tuple (nP 0 (by rfl) (.inl (by rfl)))).p)) (sw_or1 (st_cmp (or_ne hu) ok_ne (b_len (by rfl) z_len (nP 0 (by rfl) (.inl (by rfl)))).p (b_len (by rfl) z_len (nP 1 (by rfl) (.inl (by rfl)))).p (nomark _)))).st (ss_one (s1_ret sz_bl.se)) ss_nil)
  (ss_one (s1_ret (b_all (by rfl) (by rfl) z_all (se_lc (own := [("near", 2), ("far", 3)]) (by rfl) sc__law_same.nd (si_zip (by rfl) z_zip (szs_cons (nZ 0 (by rfl) (.inl (by rfl))) (szs_cons (nZ 1 (by rfl) (.inl (by rfl))) szs_nil))) (by rfl) (by rfl) (by decide) (fun _ _ _ _ _ => (sg_tup (pg_tup (by rfl) (sgs_cons (sg_name (pg_name (i := 2) sc__law_same.nd (by rfl) (.inl (by rfl)))) (sgs_cons (sg_name (pg_name (i := 3) sc__law_same.nd (by rfl) (.inl (by rfl)))) sgs_nil (pgs_cons (sg_name (pg_name (i := 3) sc__law_same.nd (by rfl) (.inl (by rfl)))) sgs_nil)) (pgs_cons (sg_name (pg_name (i := 2) sc__law_same.nd (by rfl) (.inl (by rfl)))) (sgs_cons (sg_name (pg_name (i := 3) sc__law_same.nd (by rfl) (.inl (by rfl)))) sgs_nil (pgs_cons (sg_name (pg_name (i := 3) sc__law_same.nd (by rfl) (.inl (by rfl)))) sgs_nil))))))) (fun _ _ _ _ _ => sts_nil) (fun _ _ _ _ _ => (cl c__law_same hr (Nat.le_refl _) hgd (by rfl) (szs_cons (nZ 2 (by rfl) (.inl (by rfl))) (szs_cons (nZ 3 (by rfl) (.inl (by rfl))) szs_nil))))).p)))) ss_nil)
  (ss_cons (s1_if (st_val (isa_list (by rfl) z_isinstance (by rfl) z_list (nP 1 (by rfl) (.inl (by rfl)))).p) (ss_cons (s1_if (sw_or (st_not (st_val (isa_list (by rfl) z_isinstance (by rfl) z_list (nP 0 (by rfl) (.inl (by rfl)))).p)) (sw_or1 (st_cmp (or_ne hu) ok_ne (b_len (by rfl) z_len (nP 0 (by rfl) (.inl (by rfl)))).p (b_len (by rfl) z_len (nP 1 (by rfl) (.inl (by rfl)))).p (nomark _)))).st (ss_one (s1_ret sz_bl.se)) ss_nil)
  (ss_one (s1_ret (b_all (by rfl) (by rfl) z_all (se_lc (own := [("near", 2), ("far", 3)]) (by rfl) sc__law_same.nd (si_zip (by rfl) z_zip (szs_cons (nZ 0 (by rfl) (.inl (by rfl))) (szs_cons (nZ 1 (by rfl) (.inl (by rfl))) szs_nil))) (by rfl) (by rfl) (by decide) (fun _ _ _ _ _ => (sg_tup (pg_tup (by rfl) (sgs_cons (sg_name (pg_name (i := 2) sc__law_same.nd (by rfl) (.inl (by rfl)))) (sgs_cons (sg_name (pg_name (i := 3) sc__law_same.nd (by rfl) (.inl (by rfl)))) sgs_nil (pgs_cons (sg_name (pg_name (i := 3) sc__law_same.nd (by rfl) (.inl (by rfl)))) sgs_nil)) (pgs_cons (sg_name (pg_name (i := 2) sc__law_same.nd (by rfl) (.inl (by rfl)))) (sgs_cons (sg_name (pg_name (i := 3) sc__law_same.nd (by rfl) (.inl (by rfl)))) sgs_nil (pgs_cons (sg_name (pg_name (i := 3) sc__law_same.nd (by rfl) (.inl (by rfl)))) sgs_nil))))))) (fun _ _ _ _ _ => sts_nil) (fun _ _ _ _ _ => (cl c__law_same hr (Nat.le_refl _) hgd (by rfl) (szs_cons (nZ 2 (by rfl) (.inl (by rfl))) (szs_cons (nZ 3 (by rfl) (.inl (by rfl))) szs_nil))))).p)))) ss_nil)
  (ss_one (s1_ret (se_cmp (or_eq hu) ok_eq (nP 0 (by rfl) (.inl (by rfl))) (nP 1 (by rfl) (.inl (by rfl))) (nomark _)))))))))))
theorem ok__law_same {P : Program} {w : World} {K : PySem.W.Frag} {mg : Str → Option Value} {base : Heap} (D : Df K mg "_law_same" sd__law_same) (z_isinstance : mg "isinstance" = none) (z_bool : mg "bool" = none) (z_str : mg "str" = none) (z_int : mg "int" = none) (z_tuple : mg "tuple" = none) (z_len : mg "len" = none) (z_zip : mg "zip" = none) (z_all : mg "all" = none) (z_list : mg "list" = none) : Cal P w K mg base "_law_same" sd__law_same 8 ps__law_same m__law_same := ok__law_same_n D z_isinstance z_bool z_str z_int z_tuple z_len z_zip z_all z_list 8
/-! ### _law_right -/
abbrev sd__law_right : Stmt := topS 41
abbrev N__law_right : List Str := ["pot", "section", "shown", "every", "most", "columns", "column", "found", "depth", "some", "worth", "first", "told", "again", "one"]
abbrev ps__law_right : List Str := ["pot"]
theorem sc__law_right : FnScope N__law_right ps__law_right (defScope sd__law_right) := ⟨rfl, rfl, rfl, by decide +kernel, rfl, by decide +kernel, by decide +kernel⟩
theorem bp__law_right : BindP "_law_right" sd__law_right ps__law_right := fun _ _ _ _ _ _ us hl => match us, hl with | [_], _ => rfl
def F__law_right : SS := (sSeq (sAsg 1 (fCall m__law_section (aCons (fVar 0) (aCons (fC (.int 3)) (aCons (fC (.int 4)) aNil)))))
  (sSeq (sPar 2 3 (aCons (fCl reprD (aCons (fPk 1) aNil)) (aCons (fCall m__law_profiles (aCons (fVar 1) aNil)) aNil)))
  (sSeq (sUnp [4, 5] (fTup (aCons (fCl (extD PySem.W.maxD) (aCons (fComp (wSeq (fVar 3)) (gN 14) bYes (fCall m__law_worth (aCons (fVar 1) (aCons (fVar 14) aNil))) [14]) aNil)) (aCons (fCl lenD (aCons (fBin ixD (fBin ixD (fPk 1) (fC (.int 1))) (fC (.int 0))) aNil)) aNil))))
  (sSeq (sFor (wRng1 (aCons (fPk 5) aNil)) (gN 6) (sSeq (sAsg 7 (fLst aNil))
  (sSeq (sFor (wRng1 (aCons (fBin addD (fCl lenD (aCons (fBin ixD (fPk 1) (fC (.int 1))) aNil)) (fC (.int 1))) aNil)) (gN 8) (sSeq (sAsg 9 (fComp (wSeq (fVar 3)) (gN 14) (fB (fBin eqD (fBin ixD (fPk 14) (fPk 6)) (fPk 8))) (fTup (aCons (fBin subD (fC (.int 0)) (fCall m__law_worth (aCons (fVar 1) (aCons (fVar 14) aNil)))) (aCons (fVar 14) aNil))) [14]))
  (sSeq (sPar 10 11 (aCons (fBin subD (fC (.int 0)) (fBin ixD (fCl (extD PySem.W.minD) (aCons (fPk 9) aNil)) (fC (.int 0)))) (aCons (fBin ixD (fCl (extD PySem.W.minD) (aCons (fPk 9) aNil)) (fC (.int 1))) aNil)))
  (sSeq (sAsg 12 (fLst (aCons (fCall m_worth_through (aCons (fVar 1) (aCons (fVar 6) (aCons (fVar 8) aNil)))) (aCons (fCall m_profile_through (aCons (fVar 1) (aCons (fVar 6) (aCons (fVar 8) aNil)))) (aCons (fCall m_loss (aCons (fVar 1) (aCons (fVar 6) (aCons (fVar 8) aNil)))) aNil)))))
  (sSeq (sAsg 13 (fLst (aCons (fCallK0 m_worth_through [2, 1, 0] 3 (aCons (fVar 8) (aCons (fVar 6) (aCons (fVar 1) aNil)))) (aCons (fCallK0 m_profile_through [2, 1, 0] 3 (aCons (fVar 8) (aCons (fVar 6) (aCons (fVar 1) aNil)))) (aCons (fCallK0 m_loss [2, 1, 0] 3 (aCons (fVar 8) (aCons (fVar 6) (aCons (fVar 1) aNil)))) aNil)))))
  (sSeq (sIf (bNot (fB (fCall m__law_same (aCons (fZ (fLst (aCons (fVar 12) (aCons (fVar 13) aNil)))) (aCons (fZ (fBin mulD (fZ (fLst (aCons (fLst (aCons (fVar 10) (aCons (fVar 11) (aCons (fBin subD (fPk 4) (fPk 10)) aNil)))) aNil))) (fC (.int 2)))) aNil))))) (sRet (fC (.bl false))) sNil)
  (sSeq (sIf (fB (fBin neD (fBin eqD (fPk 10) (fPk 4)) (fCl anyD (aCons (fComp (wSeq (fVar 3)) (gN 14) (fB (fBin eqD (fCall m__law_worth (aCons (fVar 1) (aCons (fVar 14) aNil))) (fPk 4))) (fBin eqD (fBin ixD (fPk 14) (fPk 6)) (fPk 8)) [14]) aNil)))) (sRet (fC (.bl false))) sNil)
  (sApp 7 (fVar 10)))))))))
  (sIf (fB (fBin neD (fCl (extD PySem.W.maxD) (aCons (fPk 7) aNil)) (fCall m_best_worth (aCons (fVar 1) aNil)))) (sRet (fC (.bl false))) sNil))))
  (sRet (fBin eqD (fCl reprD (aCons (fPk 1) aNil)) (fPk 2)))))))
def m__law_right : FS := mkFn 15 1 F__law_right
theorem ok__law_right {P : Program} {w : World} {K : PySem.W.Frag} {mg : Str → Option Value} {base : Heap} (D : Df K mg "_law_right" sd__law_right) (c__law_section : Cal P w K mg base "_law_section" sd__law_section 3 ps__law_section m__law_section) (c__law_profiles : Cal P w K mg base "_law_profiles" sd__law_profiles 1 ps__law_profiles m__law_profiles) (c__law_worth : Cal P w K mg base "_law_worth" sd__law_worth 2 ps__law_worth m__law_worth) (c_loss : Cal P w K mg base "loss" sd_loss 7 ps_loss m_loss) (c_profile_through : Cal P w K mg base "profile_through" sd_profile_through 7 ps_profile_through m_profile_through) (c_worth_through : Cal P w K mg base "worth_through" sd_worth_through 7 ps_worth_through m_worth_through) (c__law_same : Cal P w K mg base "_law_same" sd__law_same 8 ps__law_same m__law_same) (c_best_worth : Cal P w K mg base "best_worth" sd_best_worth 5 ps_best_worth m_best_worth) (z_repr : mg "repr" = none) (z_len : mg "len" = none) (z_max : mg "max" = none) (z_range : mg "range" = none) (z_min : mg "min" = none) (z_any : mg "any" = none) : Cal P w K mg base "_law_right" sd__law_right 9 ps__law_right m__law_right := cal_mk (N := N__law_right) D sc__law_right bp__law_right (by decide) (fun f cdv A outer s H E hgd hr => by
  have hu := hr.units
  exact (ss_cons (s1_asg sc__law_right.nd (by rfl) (.inr (by rfl)) (cl c__law_section hr (by decide) hgd (by rfl) (szs_cons (nZ 0 (by rfl) (.inl (by rfl))) (szs_cons sz_int (szs_cons sz_int szs_nil)))))
  (ss_cons (s1_par (by rfl) sc__law_right.nd (by rfl) (by rfl) (by decide) (by rfl) (by rfl) (ses_cons (b_repr hgd hu (by rfl) z_repr (nP 1 (by rfl) (.inr (.inl (by rfl))))) (ses_cons (cl c__law_profiles hr (by decide) hgd (by rfl) (szs_cons (nZ 1 (by rfl) (.inr (.inl (by rfl)))) szs_nil)) ses_nil)) (by rfl))
  (ss_cons (s1_unp (se_tup (ses_cons (b_max1 (by rfl) hu (by rfl) z_max (se_lc (own := [("one", 14)]) (by rfl) sc__law_right.nd (si_seq (nZ 3 (by rfl) (.inl (by rfl)))) (by rfl) (by rfl) (by decide) (fun _ _ _ _ _ => (sg_name (pg_name (i := 14) sc__law_right.nd (by rfl) (.inl (by rfl))))) (fun _ _ _ _ _ => sts_nil) (fun _ _ _ _ _ => (cl c__law_worth hr (by decide) hgd (by rfl) (szs_cons (nZ 1 (by rfl) (.inr (.inl (by rfl)))) (szs_cons (nZ 14 (by rfl) (.inl (by rfl))) szs_nil))))).p) (ses_cons (b_len (by rfl) z_len (se_ix or_ix ok_ix (se_ix or_ix ok_ix (nP 1 (by rfl) (.inr (.inl (by rfl)))) sz_int.p (fun _ _ => rfl)).p sz_int.p (fun _ _ => rfl)).p) ses_nil))) (pg_tup (by rfl) (pgs_cons (pg_name (i := 4) sc__law_right.nd (by rfl) (.inr (by rfl))) (pgs_cons (pg_name (i := 5) sc__law_right.nd (by rfl) (.inl (by rfl))) pgs_nil))))
  (ss_cons (s1_for PassesOwn.never (by rfl) (si_rng1 (by rfl) z_range (sps_cons (nP 5 (by rfl) (.inl (by rfl))) sps_nil)) (sg_name (pg_name (i := 6) sc__law_right.nd (by rfl) (.inr (by rfl)))) (ss_cons (s1_asg sc__law_right.nd (by rfl) (.inl (by rfl)) (se_lst ses_nil))
  (ss_cons (s1_for PassesOwn.never (by rfl) (si_rng1 (by rfl) z_range (sps_cons (se_bin or_add ok_add (b_len (by rfl) z_len (se_ix or_ix ok_ix (nP 1 (by rfl) (.inr (.inl (by rfl)))) sz_int.p (fun _ _ => rfl)).p).p sz_int.p).p sps_nil)) (sg_name (pg_name (i := 8) sc__law_right.nd (by rfl) (.inr (by rfl)))) (ss_cons (s1_asgLc (own := [("one", 14)]) (by rfl) sc__law_right.nd (by rfl) (by rfl) (sw_true (by rfl) (by rfl) (by rfl) (by decide +kernel)) (si_seq (nZ 3 (by rfl) (.inl (by rfl)))) (by rfl) (by rfl) (by decide) (fun _ _ _ _ _ => (sg_name (pg_name (i := 14) sc__law_right.nd (by rfl) (.inl (by rfl))))) (fun _ _ _ _ _ => (sts_one (st_cmp (or_eq hu) ok_eq (se_ix or_ix ok_ix (nP 14 (by rfl) (.inl (by rfl))) (nP 6 (by rfl) (.inr (.inl (by rfl)))) (fun _ _ => rfl)).p (nP 8 (by rfl) (.inr (.inl (by rfl)))) (nomark _)))) (fun _ _ _ _ _ => (se_tup (ses_cons (se_bin op_sub ok_sub sz_int.p (cl c__law_worth hr (by decide) hgd (by rfl) (szs_cons (nZ 1 (by rfl) (.inr (.inl (by rfl)))) (szs_cons (nZ 14 (by rfl) (.inl (by rfl))) szs_nil))).p) (ses_cons (nZ 14 (by rfl) (.inl (by rfl))).se ses_nil)))))
  (ss_cons (s1_par (by rfl) sc__law_right.nd (by rfl) (by rfl) (by decide) (by rfl) (by rfl) (ses_cons (se_bin op_sub ok_sub sz_int.p (se_ix or_ix ok_ix (b_min1 (by rfl) hu (by rfl) z_min (nP 9 (by rfl) (.inl (by rfl)))).p sz_int.p (fun _ _ => rfl)).p) (ses_cons (se_ix or_ix ok_ix (b_min1 (by rfl) hu (by rfl) z_min (nP 9 (by rfl) (.inl (by rfl)))).p sz_int.p (fun _ _ => rfl)) ses_nil)) (by rfl))
  (ss_cons (s1_asg sc__law_right.nd (by rfl) (.inl (by rfl)) (se_lst (ses_cons (cl c_worth_through hr (by decide) hgd (by rfl) (szs_cons (nZ 1 (by rfl) (.inr (.inl (by rfl)))) (szs_cons (nZ 6 (by rfl) (.inr (.inl (by rfl)))) (szs_cons (nZ 8 (by rfl) (.inr (.inl (by rfl)))) szs_nil)))) (ses_cons (cl c_profile_through hr (by decide) hgd (by rfl) (szs_cons (nZ 1 (by rfl) (.inr (.inl (by rfl)))) (szs_cons (nZ 6 (by rfl) (.inr (.inl (by rfl)))) (szs_cons (nZ 8 (by rfl) (.inr (.inl (by rfl)))) szs_nil)))) (ses_cons (cl c_loss hr (by decide) hgd (by rfl) (szs_cons (nZ 1 (by rfl) (.inr (.inl (by rfl)))) (szs_cons (nZ 6 (by rfl) (.inr (.inl (by rfl)))) (szs_cons (nZ 8 (by rfl) (.inr (.inl (by rfl)))) szs_nil)))) ses_nil)))))
  (ss_cons (s1_asg sc__law_right.nd (by rfl) (.inl (by rfl)) (se_lst (ses_cons (clk0 c_worth_through kb_worth_through_0_depth_column_section hr (by decide) hgd (by rfl) rfl (sk_cons (nZ 8 (by rfl) (.inr (.inl (by rfl)))) (sk_cons (nZ 6 (by rfl) (.inr (.inl (by rfl)))) (sk_cons (nZ 1 (by rfl) (.inr (.inl (by rfl)))) sk_nil)))) (ses_cons (clk0 c_profile_through kb_profile_through_0_depth_column_section hr (by decide) hgd (by rfl) rfl (sk_cons (nZ 8 (by rfl) (.inr (.inl (by rfl)))) (sk_cons (nZ 6 (by rfl) (.inr (.inl (by rfl)))) (sk_cons (nZ 1 (by rfl) (.inr (.inl (by rfl)))) sk_nil)))) (ses_cons (clk0 c_loss kb_loss_0_depth_column_section hr (by decide) hgd (by rfl) rfl (sk_cons (nZ 8 (by rfl) (.inr (.inl (by rfl)))) (sk_cons (nZ 6 (by rfl) (.inr (.inl (by rfl)))) (sk_cons (nZ 1 (by rfl) (.inr (.inl (by rfl)))) sk_nil)))) ses_nil)))))
  (ss_cons (s1_if (st_not (st_val (cl c__law_same hr (by decide) hgd (by rfl) (szs_cons (se_lst (ses_cons (nZ 12 (by rfl) (.inl (by rfl))).se (ses_cons (nZ 13 (by rfl) (.inl (by rfl))).se ses_nil))).z (szs_cons (se_bin or_mul ok_mul (se_lst (ses_cons (se_lst (ses_cons (nZ 10 (by rfl) (.inl (by rfl))).se (ses_cons (nZ 11 (by rfl) (.inl (by rfl))).se (ses_cons (se_bin op_sub ok_sub (nP 4 (by rfl) (.inr (.inl (by rfl)))) (nP 10 (by rfl) (.inl (by rfl)))) ses_nil)))) ses_nil)).z.p sz_int.p).z szs_nil))).p)) (ss_one (s1_ret sz_bl.se)) ss_nil)
  (ss_cons (s1_if (st_cmp (or_ne hu) ok_ne (se_cmp (or_eq hu) ok_eq (nP 10 (by rfl) (.inl (by rfl))) (nP 4 (by rfl) (.inr (.inl (by rfl)))) (nomark _)).p (b_any (by rfl) (by rfl) z_any (se_lc (own := [("one", 14)]) (by rfl) sc__law_right.nd (si_seq (nZ 3 (by rfl) (.inl (by rfl)))) (by rfl) (by rfl) (by decide) (fun _ _ _ _ _ => (sg_name (pg_name (i := 14) sc__law_right.nd (by rfl) (.inl (by rfl))))) (fun _ _ _ _ _ => (sts_one (st_cmp (or_eq hu) ok_eq (cl c__law_worth hr (by decide) hgd (by rfl) (szs_cons (nZ 1 (by rfl) (.inr (.inl (by rfl)))) (szs_cons (nZ 14 (by rfl) (.inl (by rfl))) szs_nil))).p (nP 4 (by rfl) (.inr (.inl (by rfl)))) (nomark _)))) (fun _ _ _ _ _ => (se_cmp (or_eq hu) ok_eq (se_ix or_ix ok_ix (nP 14 (by rfl) (.inl (by rfl))) (nP 6 (by rfl) (.inr (.inl (by rfl)))) (fun _ _ => rfl)).p (nP 8 (by rfl) (.inr (.inl (by rfl)))) (nomark _)))).p).p (nomark _)) (ss_one (s1_ret sz_bl.se)) ss_nil)
  (ss_one (s1_app (pe_var (i := 7) (by rfl) (.inl (by rfl))) (nZ 10 (by rfl) (.inl (by rfl))).se)))))))))
  (ss_one (s1_if (st_cmp (or_ne hu) ok_ne (b_max1 (by rfl) hu (by rfl) z_max (nP 7 (by rfl) (.inl (by rfl)))).p (cl c_best_worth hr (by decide) hgd (by rfl) (szs_cons (nZ 1 (by rfl) (.inr (.inl (by rfl)))) szs_nil)).p (nomark _)) (ss_one (s1_ret sz_bl.se)) ss_nil)))))
  (ss_one (s1_ret (se_cmp (or_eq hu) ok_eq (b_repr hgd hu (by rfl) z_repr (nP 1 (by rfl) (.inr (.inl (by rfl))))).p (nP 2 (by rfl) (.inl (by rfl))) (nomark _)))))))))
/-! ### law -/
abbrev sd_law : Stmt := topS 42
abbrev N_law : List Str := ["script", "pot", "step"]
abbrev ps_law : List Str := ["script"]
theorem sc_law : FnScope N_law ps_law (defScope sd_law) := ⟨rfl, rfl, rfl, by decide +kernel, rfl, by decide +kernel, by decide +kernel⟩
theorem bp_law : BindP "law" sd_law ps_law := fun _ _ _ _ _ _ us hl => match us, hl with | [_], _ => rfl
def F_law : SS := (sSeq (sCell 1 (fCall m__law_pot (aCons (fVar 0) (aCons (fC (.int 0)) aNil))))
  (sRet (fCl allD (aCons (fComp (wRng1 (aCons (fC (.int 5)) aNil)) (gN 2) bYes (fCall m__law_right (aCons (fVar 1) aNil)) [2]) aNil))))
def m_law : FS := mkFn 3 1 F_law
theorem ok_law {P : Program} {w : World} {K : PySem.W.Frag} {mg : Str → Option Value} {base : Heap} (D : Df K mg "law" sd_law) (c__law_pot : Cal P w K mg base "_law_pot" sd__law_pot 1 ps__law_pot m__law_pot) (c__law_right : Cal P w K mg base "_law_right" sd__law_right 9 ps__law_right m__law_right) (z_range : mg "range" = none) (z_all : mg "all" = none) : Cal P w K mg base "law" sd_law 10 ps_law m_law := cal_mk (N := N_law) D sc_law bp_law (by decide) (fun f cdv A outer s H E hgd hr => by
  have hu := hr.units
  exact (ss_cons (s1_cell sc_law.nd (by rfl) (.inr (by rfl)) (cl c__law_pot hr (by decide) hgd (by rfl) (szs_cons (nZ 0 (by rfl) (.inl (by rfl))) (szs_cons sz_int szs_nil))))
  (ss_one (s1_ret (b_all (by rfl) (by rfl) z_all (se_lc (own := [("step", 2)]) (by rfl) sc_law.nd (si_rng1 (by rfl) z_range (sps_cons sz_int.p sps_nil)) (by rfl) (by rfl) (by decide) (fun _ _ _ _ _ => (sg_name (pg_name (i := 2) sc_law.nd (by rfl) (.inl (by rfl))))) (fun _ _ _ _ _ => sts_nil) (fun _ _ _ _ _ => (cl c__law_right hr (by decide) hgd (by rfl) (szs_cons (nZ 1 (by rfl) (.inr (.inl (by rfl)))) szs_nil)))).p)))))
theorem all_ok {P : Program} {w : World} {K : PySem.W.Frag} {mg : Str → Option Value} {fa : Addr} (hfa : mg "law" = some (.ref fa)) (D__law_pot : Df K mg "_law_pot" sd__law_pot) (D__law_draw : Df K mg "_law_draw" sd__law_draw) (D__law_pick : Df K mg "_law_pick" sd__law_pick) (D__law_section : Df K mg "_law_section" sd__law_section) (D__law_profiles : Df K mg "_law_profiles" sd__law_profiles) (D_is_integer : Df K mg "is_integer" sd_is_integer) (D_bench_is_right : Df K mg "bench_is_right" sd_bench_is_right) (D_section_is_right : Df K mg "section_is_right" sd_section_is_right) (D_check_section : Df K mg "check_section" sd_check_section) (D_columns_of : Df K mg "columns_of" sd_columns_of) (D_benches_of : Df K mg "benches_of" sd_benches_of) (D_greatest_told : Df K mg "greatest_told" sd_greatest_told) (D_depth_worth_by : Df K mg "depth_worth_by" sd_depth_worth_by) (D_near_depths : Df K mg "near_depths" sd_near_depths) (D_table_by : Df K mg "table_by" sd_table_by) (D_best_by : Df K mg "best_by" sd_best_by) (D_best_worth : Df K mg "best_worth" sd_best_worth) (D__law_down : Df K mg "_law_down" sd__law_down) (D__law_worth : Df K mg "_law_worth" sd__law_worth) (D_is_count : Df K mg "is_count" sd_is_count) (D_is_position : Df K mg "is_position" sd_is_position) (D_check_column : Df K mg "check_column" sd_check_column) (D_check_place : Df K mg "check_place" sd_check_place) (D_through_by : Df K mg "through_by" sd_through_by) (D_worth_through : Df K mg "worth_through" sd_worth_through) (D_read_by : Df K mg "read_by" sd_read_by) (D_profile_through : Df K mg "profile_through" sd_profile_through) (D_loss : Df K mg "loss" sd_loss) (D__law_same : Df K mg "_law_same" sd__law_same) (D__law_right : Df K mg "_law_right" sd__law_right) (D_law : Df K mg "law" sd_law) (z_sum : mg "sum" = none) (z_abs : mg "abs" = none) (z_int : mg "int" = none) (z_len : mg "len" = none) (z_max : mg "max" = none) (z_range : mg "range" = none) (z_tuple : mg "tuple" = none) (z_isinstance : mg "isinstance" = none) (z_bool : mg "bool" = none) (z_all : mg "all" = none) (z_str : mg "str" = none) (z_enumerate : mg "enumerate" = none) (z_list : mg "list" = none) (z_zip : mg "zip" = none) (z_repr : mg "repr" = none) (z_min : mg "min" = none) (z_any : mg "any" = none) (g_MOST_COLUMNS : ∃ t, mg "MOST_COLUMNS" = some (.int 5 t)) (g_MOST_WORTH : ∃ t, mg "MOST_WORTH" = some (.int 999 t)) (g_MOST_BENCHES : ∃ t, mg "MOST_BENCHES" = some (.int 4 t)) :
    ∃ fd : FuncData, (∀ (s : Shared) (u : Value), BindsTo s fd ⟨[u], []⟩ [("script", u)]) ∧ ∀ base : Heap, K.In base → base.Ns mainGlobals mg → FnG P w K mg base 10 fa fd ["script"] (spM K m_law) := by
  refine law_end hfa D_law bp_law fun base _ _ => ?_
  have c__law_pot := ok__law_pot (P := P) (w := w) (base := base) D__law_pot z_sum z_abs z_int z_len z_max
  have c__law_draw := ok__law_draw (P := P) (w := w) (base := base) D__law_draw z_int
  have c__law_pick := ok__law_pick (P := P) (w := w) (base := base) D__law_pick c__law_draw z_len
  have c__law_section := ok__law_section (P := P) (w := w) (base := base) D__law_section c__law_draw c__law_pick z_range z_tuple
  have c__law_profiles := ok__law_profiles (P := P) (w := w) (base := base) D__law_profiles z_len z_range z_abs
  have c_is_integer := ok_is_integer (P := P) (w := w) (base := base) D_is_integer z_isinstance z_bool z_int
  have c_bench_is_right := ok_bench_is_right (P := P) (w := w) (base := base) D_bench_is_right c_is_integer z_len z_isinstance z_tuple z_abs z_all g_MOST_COLUMNS g_MOST_WORTH
  have c_section_is_right := ok_section_is_right (P := P) (w := w) (base := base) D_section_is_right c_bench_is_right z_isinstance z_str z_len z_tuple z_all g_MOST_BENCHES
  have c_check_section := ok_check_section (P := P) (w := w) (base := base) D_check_section c_section_is_right
  have c_columns_of := ok_columns_of (P := P) (w := w) (base := base) D_columns_of z_len
  have c_benches_of := ok_benches_of (P := P) (w := w) (base := base) D_benches_of z_len
  have c_greatest_told := ok_greatest_told (P := P) (w := w) (base := base) D_greatest_told z_max
  have c_depth_worth_by := ok_depth_worth_by (P := P) (w := w) (base := base) D_depth_worth_by z_sum
  have c_near_depths := ok_near_depths (P := P) (w := w) (base := base) D_near_depths c_benches_of
  have c_table_by := ok_table_by (P := P) (w := w) (base := base) D_table_by c_benches_of c_columns_of c_greatest_told c_near_depths c_depth_worth_by z_range
  have c_best_by := ok_best_by (P := P) (w := w) (base := base) D_best_by c_table_by z_max
  have c_best_worth := ok_best_worth (P := P) (w := w) (base := base) D_best_worth c_check_section c_best_by
  have c__law_down := ok__law_down (P := P) (w := w) (base := base) D__law_down z_range z_sum
  have c__law_worth := ok__law_worth (P := P) (w := w) (base := base) D__law_worth c__law_down z_enumerate z_sum
  have c_is_count := ok_is_count (P := P) (w := w) (base := base) D_is_count c_is_integer
  have c_is_position := ok_is_position (P := P) (w := w) (base := base) D_is_position c_is_count
  have c_check_column := ok_check_column (P := P) (w := w) (base := base) D_check_column c_check_section c_is_position c_columns_of
  have c_check_place := ok_check_place (P := P) (w := w) (base := base) D_check_place c_check_column c_benches_of c_is_count
  have c_through_by := ok_through_by (P := P) (w := w) (base := base) D_through_by c_greatest_told c_table_by
  have c_worth_through := ok_worth_through (P := P) (w := w) (base := base) D_worth_through c_check_place c_through_by
  have c_read_by := ok_read_by (P := P) (w := w) (base := base) D_read_by c_near_depths c_greatest_told z_len z_list z_range z_tuple
  have c_profile_through := ok_profile_through (P := P) (w := w) (base := base) D_profile_through c_check_place c_read_by c_table_by
  have c_loss := ok_loss (P := P) (w := w) (base := base) D_loss c_check_place c_best_by c_through_by
  have c__law_same := ok__law_same (P := P) (w := w) (base := base) D__law_same z_isinstance z_bool z_str z_int z_tuple z_len z_zip z_all z_list
  have c__law_right := ok__law_right (P := P) (w := w) (base := base) D__law_right c__law_section c__law_profiles c__law_worth c_loss c_profile_through c_worth_through c__law_same c_best_worth z_repr z_len z_max z_range z_min z_any
  have c_law := ok_law (P := P) (w := w) (base := base) D_law c__law_pot c__law_right z_range z_all
  exact c_law
end Pv.K20

/-! # M1 -/
set_option Elab.async false
set_option linter.all false
set_option maxHeartbeats 1000000
set_option maxRecDepth 10000
namespace Pv.K20
open PySem Pv
theorem w_draw {st : Ms} (h : PotOk st) {n : Int} (h1 : 0 < n) (h2 : n < 1000000) : Wp (m__law_draw [.cell 0, .int n] st) fun x => ∃ r, x.1 = .int r ∧ 0 ≤ r ∧ r < n ∧ PotOk x.2 := by
  obtain ⟨a, b, rfl, ha, hb, hb2⟩ := h
  refine wp_mkFn (by rfl) ?_
  simp [F__law_draw, L2.atI, L2.ixN, setCell, small64, small30]
  have n0 : ¬ n = 0 := by omega
  by_cases h0 : 0 < a
  · refine .inr ⟨h0, n0, ⟨n0, by omega⟩, (fmod_rng h1).1, (fmod_rng h1).2, _, _, rfl, fdiv_nn h1 ha, hb, hb2⟩
  · have r := fmod_rng (a := b * 40127 + 6329) (n := 2147483587) (by decide)
    refine .inl ⟨by omega, ⟨by omega, by omega⟩, n0, (fmod_rng h1).1, (fmod_rng h1).2, _, _, rfl, ha, r.1, by omega⟩
theorem w_pot {ns : List Int} : Wp (m__law_pot [.scr ns, .int 0] []) fun x => ∃ a b, x.1 = .own [.int a, .int b] ∧ 0 ≤ a ∧ 0 ≤ b ∧ b < 2147483648 ∧ x.2 = [] := by
  refine wp_mkFn (by rfl) ?_
  cases ns with
  | nil =>
    simp [F__law_pot, small64, okPow, cut_01, sumD, intsOf]
  | cons x r =>
    have h0 : L2.atI (x :: r) 0 = some x := atI_nat (k := 0)
    simp [F__law_pot, small64, okPow, cut_01, sumD, intsOf, h0]
    generalize (if x < 0 then -x else x) = c
    have r := fmod_rng (a := c.fmod 2147483579 * 40127 + 431) (n := 2147483563) (by decide)
    refine ⟨?_, by omega, by omega⟩
    split <;> omega
end Pv.K20

/-! # M2 -/
set_option Elab.async false
set_option linter.all false
set_option maxHeartbeats 1000000
set_option maxRecDepth 10000
namespace Pv.K20
open PySem Pv
theorem w_pick {st : Ms} (h : PotOk st) {l : List D} (hl : 0 < l.length) (h2 : l.length < 1000000) (ho : D.ofs l = true) : Wp (m__law_pick [.cell 0, .tup l] st) fun x => x.1 ∈ l ∧ PotOk x.2 := by
  refine wp_mkFn (by rfl) ?_
  simp [F__law_pick]
  refine (w_draw h (n := (l.length : Int)) (by omega) (by omega)).mono fun x ⟨r, e, r0, r1, p⟩ => ?_
  obtain ⟨d, st'⟩ := x
  dsimp only at e p ⊢
  subst e
  obtain ⟨a, b, rfl, _⟩ := p
  obtain ⟨c, d, e, _⟩ := h
  obtain ⟨k, rfl⟩ := Int.eq_ofNat_of_zero_le r0
  have hk : k < l.length := by omega
  simp [ho, atI_nat, e, List.getElem?_eq_getElem hk]
  exact ⟨_, _, rfl, by assumption⟩
/-- a bench, a section -/
def bD (r : List Int) : D := .tup (r.map .int)
def secD (rows : List (List Int)) : D := .tup [.str "section", .tup (rows.map bD)]
structure Row (n : Nat) (r : List Int) : Prop where
  len : r.length = n
  bnd : ∀ x ∈ r, -9 ≤ x ∧ x ≤ 9
structure Sh (rows : List (List Int)) (n : Nat) : Prop where
  m1 : 1 ≤ rows.length
  m2 : rows.length ≤ 3
  n1 : 1 ≤ n
  n2 : n ≤ 4
  row : ∀ r ∈ rows, Row n r
@[simp] theorem bD_fz {r : List Int} : (bD r).fz = bD r := by simp [bD]
@[simp] theorem bD_of {r : List Int} : (bD r).of = true := by simp [bD]
@[simp] theorem bD_nc {r : List Int} : (bD r).nc = true := by simp [bD]
theorem w_section {st : Ms} (h : PotOk st) : Wp (m__law_section [.cell 0, .int 3, .int 4] st) fun x => ∃ rows n, x.1 = secD rows ∧ Sh rows n ∧ PotOk x.2 := by
  refine wp_mkFn (by rfl) ?_
  simp [F__law_section]
  refine (w_draw h (n := 4) (by decide) (by decide)).mono fun x ⟨c, e, c0, c1, p⟩ => ?_
  obtain ⟨d, st1⟩ := x
  dsimp only at e p ⊢
  subst e
  obtain ⟨n, rfl⟩ := Int.eq_ofNat_of_zero_le c0
  simp [wp_sFor]
  refine (w_draw p (n := 3) (by decide) (by decide)).mono fun x ⟨b, e, b0, b1, p⟩ => ?_
  obtain ⟨d, st2⟩ := x
  dsimp only at e p ⊢
  subst e
  obtain ⟨m, rfl⟩ := Int.eq_ofNat_of_zero_le b0
  simp [okR]
  refine ⟨by omega, ?_⟩
  rw [steps_eq]
  refine wp_for (α := Nat) (List.range (1 + (m : Int)).toNat) _ (fun (pre : List Nat) (env : Env) (st : Ms) => PotOk st ∧ ∃ (rows : List (List Int)) (x5 : Option D), env = [some (.cell 0), some (.int 3), some (.int 4), some (.int (1 + n)), some (.own (rows.map bD)), x5, none] ∧ rows.length = pre.length ∧ ∀ r ∈ rows, Row (1 + n) r) ?_ ?_ ?_
  · exact ⟨p, [], none, rfl, rfl, fun r h => nomatch h⟩
  · rintro pre x post env st' e ⟨p, rows, x5, rfl, hl, hr⟩
    have hl3 : pre.length < (1 + (m : Int)).toNat := by
      have := congrArg List.length e
      simp at this
      omega
    simp [wp_fComp, okR, okAt, wipeE]
    refine ⟨by omega, ?_⟩
    rw [steps_eq]
    refine wp_draws (α := Nat) (List.range (1 + (n : Int)).toNat) _ PotOk (fun d => ∃ i : Int, d = .int i ∧ -9 ≤ i ∧ i ≤ 9) p ?_ ?_
    · intro y hy st2 p2
      simp
      refine (w_draw p2 (n := 9) (by decide) (by decide)).mono fun x ⟨d1, e, c0, c1, p⟩ => ?_
      obtain ⟨d, st3⟩ := x
      dsimp only at e p ⊢
      subst e
      simp
      refine (w_draw p (n := 15) (by decide) (by decide)).mono fun x ⟨d2, e, c2, c3, p⟩ => ?_
      obtain ⟨d, st4⟩ := x
      dsimp only at e p ⊢
      subst e
      simp
      refine (w_pick p (by simp) (by simp) (by simp)).mono fun x ⟨e, p⟩ => ?_
      obtain ⟨d, st5⟩ := x
      dsimp only at e p ⊢
      refine ⟨?_, p, by simp [wipeE]⟩
      simp at e
      rcases e with rfl | rfl | rfl
      · exact ⟨_, rfl, by omega, by omega⟩
      · exact ⟨_, rfl, by omega, by omega⟩
      · exact ⟨_, rfl, by omega, by omega⟩
    · intro ds st2 hl2 hd p2
      obtain ⟨is, rfl, hl4, hb⟩ := ints_of hd
      simp at hl2
      simp [restE]
      refine ⟨by omega, by omega, p2, rows ++ [is], by simp [bD], by simp [hl], fun r h => ?_⟩
      simp at h
      rcases h with h | rfl
      · exact hr r h
      · exact ⟨by omega, hb⟩
  · rintro env st' ⟨p, rows, x5, rfl, hl, hr⟩
    simp at hl
    simp
    exact ⟨by rw [p.len, h.len], rows, rfl, ⟨1 + n, by omega, by omega, by omega, by omega, hr⟩, p⟩
end Pv.K20

/-! # M3 -/
set_option Elab.async false
set_option linter.all false
set_option maxHeartbeats 1000000
set_option maxRecDepth 10000
namespace Pv.K20
open PySem Pv
theorem e_is_integer (i : Int) (st : Ms) : m_is_integer [.int i] st = some (.bl true, st) := by
  rw [← wp_eq]
  refine wp_mkFn (by rfl) ?_
  simp [F_is_integer]
theorem e_bench_is_right {r : List Int} (st : Ms) (h1 : 1 ≤ r.length) (h2 : r.length ≤ 5) (hb : ∀ x ∈ r, -9 ≤ x ∧ x ≤ 9) : m_bench_is_right [bD r] st = some (.bl true, st) := by
  rw [← wp_eq]
  refine wp_mkFn (by rfl) ?_
  simp [F_bench_is_right, bD, wp_fComp, okAt, wipeE, restE, show (1 : Int) ≤ r.length by omega, show (r.length : Int) ≤ 5 by omega]
  refine wp_each (α := Int) r D.int (fun _ => .bl true) (fun x hx => ?_) ?_
  · have := hb x hx
    simp [e_is_integer, wipeE]
    split <;> omega
  · simp [allD_map]
    omega
theorem e_section_is_right {rows : List (List Int)} {n : Nat} (st : Ms) (h : Sh rows n) : m_section_is_right [secD rows] st = some (.bl true, st) := by
  obtain ⟨r0, e0⟩ : ∃ r0, rows[0]? = some r0 := ⟨_, List.getElem?_eq_getElem (i := 0) h.m1⟩
  have l0 := (h.row r0 (List.mem_of_getElem? e0)).len
  have m1 := h.m1
  have m2 := h.m2
  have n1 := h.n1
  have n2 := h.n2
  rw [← wp_eq]
  refine wp_mkFn (by rfl) ?_
  simp [F_section_is_right, secD, wp_fComp, okAt, wipeE, restE, show (1 : Int) ≤ rows.length by omega, show (rows.length : Int) ≤ 4 by omega]
  refine wp_each (α := List Int) rows _ (fun _ => .bl true) (fun x hx => ?_) ?_
  · have rx := h.row x hx
    simp
    rw [e_bench_is_right _ (by rw [rx.len]; omega) (by rw [rx.len]; omega) rx.bnd]
    simp [bD, e0, wipeE, rx.len, l0]
  · simp [allD_map]
    omega
end Pv.K20

/-! # M4 -/
set_option Elab.async false
set_option linter.all false
set_option maxHeartbeats 1000000
set_option maxRecDepth 10000
namespace Pv.K20
open PySem Pv
theorem e_check_section {rows : List (List Int)} {n : Nat} (st : Ms) (h : Sh rows n) : m_check_section [secD rows] st = some (.non, st) := by
  have f : (secD rows).fz = secD rows := by simp [secD]
  rw [← wp_eq]
  refine wp_mkFn (by rfl) ?_
  simp [F_check_section, e_section_is_right st h, f]
@[simp] theorem sec_fz {rows : List (List Int)} : (secD rows).fz = secD rows := by simp [secD]
theorem Sh.r0 {rows : List (List Int)} {n : Nat} (h : Sh rows n) : ∃ r0, rows[0]? = some r0 ∧ r0.length = n :=
  ⟨_, List.getElem?_eq_getElem (i := 0) h.m1, (h.row _ (List.getElem_mem _)).len⟩
theorem e_columns_of {rows : List (List Int)} {n : Nat} (st : Ms) (h : Sh rows n) : m_columns_of [secD rows] st = some (.int n, st) := by
  obtain ⟨r0, e0, l0⟩ := h.r0
  rw [← wp_eq]
  refine wp_mkFn (by rfl) ?_
  simp [F_columns_of, secD, e0, bD, l0]
theorem e_benches_of {rows : List (List Int)} (st : Ms) : m_benches_of [secD rows] st = some (.int rows.length, st) := by
  rw [← wp_eq]
  refine wp_mkFn (by rfl) ?_
  simp [F_benches_of, secD]
def near (m : Nat) (d : Int) : List Int := [d - 1, d, d + 1].filter fun e => decide (0 ≤ e) && decide (e ≤ m)
theorem e_near {rows : List (List Int)} (st : Ms) (d : Int) : m_near_depths [secD rows, .int d] st = some (.own ((near rows.length d).map .int), st) := by
  rw [← wp_eq]
  refine wp_mkFn (by rfl) ?_
  simp [F_near_depths, wp_fComp, okAt, wipeE, restE]
  refine wp_map (α := Int) [d - 1, d, d + 1] D.int (fun e => decide (0 ≤ e) && decide (e ≤ rows.length)) D.int (fun x hx => ?_) ?_
  · simp [e_benches_of, wipeE]
    by_cases h : 0 ≤ x
    · simp [h]
      by_cases h2 : x ≤ (rows.length : Int)
      · simp [h2]
      · simp [h2]
        omega
    · simp [h]
      omega
  · have : ((near rows.length d).map D.int).length ≤ 3 := by
      rw [List.length_map]
      exact List.length_filter_le _ [d - 1, d, d + 1]
    have h2 := this
    unfold near at h2
    simp only [List.length_map] at h2 ⊢
    refine ⟨Nat.le_trans h2 (by decide), ?_⟩
    simp [near]
/-- told or not -/
def oD : Option Int → D
  | none => .non
  | some i => .int i
@[simp] theorem oD_non : oD none = .non := rfl
@[simp] theorem oD_int {i : Int} : oD (some i) = .int i := rfl
@[simp] theorem oD_fz {o : Option Int} : (oD o).fz = oD o := by cases o <;> simp
@[simp] theorem oD_of {o : Option Int} : (oD o).of = true := by cases o <;> simp
def gt (xs : List (Option Int)) : Option Int := match xs.filterMap id with
  | [] => none
  | x :: r => some (r.foldl max x)
theorem filt_some (xs : List (Option Int)) : (xs.filter Option.isSome).map oD = (xs.filterMap id).map .int := by
  induction xs with
  | nil => rfl
  | cons x xs ih => cases x <;> simp [ih]
theorem e_greatest (st : Ms) (xs : List (Option Int)) (hl : xs.length ≤ 1000) : m_greatest_told [.lst (xs.map oD)] st = some (oD (gt xs), st) := by
  rw [← wp_eq]
  refine wp_mkFn (by rfl) ?_
  simp [F_greatest_told, wp_fComp, okAt, wipeE, restE]
  refine wp_map (α := Option Int) xs oD Option.isSome oD (fun x hx => ?_) ?_
  · cases x <;> simp [wipeE]
  · rw [filt_some]
    have l2 : (xs.filterMap id).length ≤ 1000 := Nat.le_trans (List.length_filterMap_le _ _) hl
    dsimp only
    refine ⟨by rw [List.length_map]; omega, ?_⟩
    unfold gt
    generalize xs.filterMap id = ys at l2 ⊢
    simp
    rw [neD_nil_own (by simp) (by simp) (by simp)]
    cases ys with
    | nil => simp
    | cons x r =>
      rw [ext_max]
      simp
/-- the worth of column c to depth d -/
def W (rows : List (List Int)) (c : Nat) (d : Int) : Int := ((rows.take d.toNat).map fun r => r.getD c 0).sum
theorem e_depth_worth {rows : List (List Int)} {n c : Nat} (st : Ms) (h : Sh rows n) (hc : c < n) (d : Int) (hd : 0 ≤ d) : m_depth_worth_by [secD rows, .int c, .int d] st = some (.int (W rows c d), st) := by
  obtain ⟨k, rfl⟩ := Int.eq_ofNat_of_zero_le hd
  rw [← wp_eq]
  refine wp_mkFn (by rfl) ?_
  simp [F_depth_worth_by, wp_fComp, okAt, wipeE, restE, secD, cut_0n]
  rw [← List.map_take]
  simp only [fzs_map, bD_fz]
  refine wp_each (α := List Int) (rows.take k) _ (fun r => .int (r.getD c 0)) (fun x hx => ?_) ?_
  · have rx := h.row x (List.mem_of_mem_take hx)
    simp [bD, wipeE, atI_nat, List.getElem?_eq_getElem (show c < x.length by rw [rx.len]; exact hc)]
  · have hm : min k rows.length ≤ 3 := Nat.le_trans (Nat.min_le_right _ _) h.m2
    dsimp only
    rw [sumD_map]
    simp [W]
    omega
end Pv.K20

/-! # M5 -/
set_option Elab.async false
set_option linter.all false
set_option maxHeartbeats 2000000
set_option maxRecDepth 10000
namespace Pv.K20
open PySem Pv
theorem range_split {n x : Nat} {pre post : List Nat} (e : List.range n = pre ++ x :: post) : x = pre.length ∧ x < n := by
  have h1 : (List.range n)[pre.length]? = some x := by rw [e]; simp
  have h2 : pre.length < n := by
    have := congrArg List.length e
    simp at this
    omega
  rw [List.getElem?_range h2] at h1
  cases h1
  exact ⟨rfl, h2⟩
section
variable (w : Nat → Int → Int) (ok : Nat → Int → Bool) (m : Nat)
/-- the greatest worth of k columns from column c, the first at depth d -/
def best : Nat → Nat → Int → Option Int
  | 0, _, _ => some 0
  | k + 1, c, d => match (if k = 0 then some 0 else gt ((near m d).map (best k (c + 1)))) with
    | none => none
    | some l => if ok c d = true then some (w c d + l) else none
def rowB (k c : Nat) : List (Option Int) := (List.range (m + 1)).map fun (i : Nat) => best w ok m k c (i : Int)
def tabl (n : Nat) : Nat → List (List (Option Int))
  | 0 => []
  | k + 1 => rowB w ok m (k + 1) (n - (k + 1)) :: tabl n k
theorem tabl_len (n k : Nat) : (tabl w ok m n k).length = k := by
  induction k with
  | zero => rfl
  | succ k ih => simp [tabl, ih]
end
def rowD (r : List (Option Int)) : D := .lst (r.map oD)
@[simp] theorem oD_nc {o : Option Int} : (oD o).nc = true := by cases o <;> simp
@[simp] theorem oD_lay {o : Option Int} : (oD o).py.canLay0 = true := by cases o <;> simp
theorem oD_dep {o : Option Int} : (oD o).py.depth = 0 := by cases o <;> simp
@[simp] theorem rowD_fz {r : List (Option Int)} : (rowD r).fz = rowD r := by simp [rowD]
@[simp] theorem rowD_of {r : List (Option Int)} : (rowD r).of = true := by simp [rowD]
@[simp] theorem rowD_nc {r : List (Option Int)} : (rowD r).nc = true := by simp [rowD]
@[simp] theorem rowD_lay {r : List (Option Int)} : (rowD r).py.canLay0 = true := by simp [rowD]
theorem rowD_dep {r : List (Option Int)} : (rowD r).py.depth ≤ 1 := by
  simp [rowD]
  exact Nat.le_zero.mp (depAll_map fun x _ => Nat.le_of_eq oD_dep)
theorem near_mem {m : Nat} {d e : Int} (h : e ∈ near m d) : 0 ≤ e ∧ e ≤ m := by
  unfold near at h
  have := (List.mem_filter.mp h).2
  simp at this
  exact this
theorem e_table {rows : List (List Int)} {n : Nat} (st : Ms) (h : Sh rows n) {cD dD : D} (hc : cD.fz = cD) (hd : dD.fz = dD) (ne : Nat → Bool) (eq : Int → Bool) (h1 : ∀ (c : Nat) st, neD st (.int c) cD = some (.bl (ne c))) (h2 : ∀ (d : Int) st, eqD st (.int d) dD = some (.bl (eq d))) :
    m_table_by [secD rows, cD, dD] st = some (.own ((tabl (W rows) (fun c d => ne c || eq d) rows.length n n).map rowD), st) := by
  have m1 := h.m1
  have m2 := h.m2
  have n1 := h.n1
  have n2 := h.n2
  rw [← wp_eq]
  refine wp_mkFn (by rfl) ?_
  simp [F_table_by, e_columns_of st h, e_benches_of, wp_sFor, hc, hd, okR]
  refine ⟨by omega, ?_⟩
  rw [steps_eq]
  refine wp_for (α := Nat) (List.range n) _ (fun (pre : List Nat) (env : Env) (st' : Ms) => st = st' ∧ ∃ x6 x7 x8 x9 x10 : Option D, env = [some (secD rows), some cD, some dD, some (.int n), some (.int (rows.length + 1)), some (.own ((tabl (W rows) (fun c d => ne c || eq d) rows.length n pre.length).map rowD)), x6, x7, x8, x9, x10, none]) ⟨rfl, none, none, none, none, none, rfl⟩ ?_ ?_
  · rintro pre x post env st' e ⟨rfl, x6, x7, x8, x9, x10, rfl⟩
    obtain ⟨rfl, hx⟩ := range_split e
    have hk : pre.length < n := by omega
    obtain ⟨k, ek⟩ : ∃ k, k = pre.length := ⟨_, rfl⟩
    rw [← ek] at hk hx e ⊢
    have ec : (n : Int) - 1 + (k : Int) * (-1) = ((n - (k + 1) : Nat) : Int) := by omega
    have ec2 : (n : Int) - 1 + -(k : Int) = ((n - (k + 1) : Nat) : Int) := by omega
    simp [wp_sFor, okR, ec, ec2]
    refine ⟨by omega, ?_⟩
    rw [steps_eq]
    refine wp_for (α := Nat) (List.range (rows.length + 1)) _ (fun (pre : List Nat) (env : Env) (st' : Ms) => st = st' ∧ ∃ x8 x9 x10 : Option D, env = [some (secD rows), some cD, some dD, some (.int n), some (.int (rows.length + 1)), some (.own ((tabl (W rows) (fun c d => ne c || eq d) rows.length n k).map rowD)), some (.int ((n - (k + 1) : Nat) : Int)), some (.own ((pre.map fun (i : Nat) => best (W rows) (fun c d => ne c || eq d) rows.length (k + 1) (n - (k + 1)) (i : Int)).map oD)), x8, x9, x10, none]) ⟨rfl, x8, x9, x10, by simp⟩ ?_ ?_
    · rintro pre x post env st' e ⟨rfl, x8, x9, x10, rfl⟩
      obtain ⟨ex, hx⟩ := range_split e
      have hpl : pre.length < 1000000 := by omega
      generalize eT : tabl (W rows) (fun c d => ne c || eq d) rows.length n k = T
      have depT : PyData.depthAll (D.pys (T.map rowD)) ≤ 63 := by
        rw [pys_map]
        exact Nat.le_trans (depAll_map fun x _ => rowD_dep) (by decide)
      rw [gN_ev, if_pos (by simp), wp_some, wp_sSeq, wp_sAsg]
      simp only [List.set_cons_succ, List.set_cons_zero]
      have eL : ∀ i : Int, best (W rows) (fun c d => ne c || eq d) rows.length (k + 1) (n - (k + 1)) i = match (if k = 0 then some 0 else gt ((near rows.length i).map (best (W rows) (fun c d => ne c || eq d) rows.length k (n - k)))) with
        | none => none
        | some l => if (ne (n - (k + 1)) || eq i) = true then some (W rows (n - (k + 1)) i + l) else none := fun i => by
        have e1 : n - k = n - (k + 1) + 1 := by omega
        rw [e1]
        rfl
      refine wp_val (oD (if k = 0 then some 0 else gt ((near rows.length (x : Int)).map (best (W rows) (fun c d => ne c || eq d) rows.length k (n - k))))) ?_ ?_
      · rw [← wp_eq]
        simp
        rw [eqD_nil_own (by simp) (by simp) (by simpa using depT)]
        subst eT
        cases k with
        | zero => simp [tabl]
        | succ k =>
          simp [tabl, e_near, wp_fComp, okAt, wipeE, restE]
          refine wp_each (α := Int) (near rows.length (x : Int)) D.int (fun e => oD (best (W rows) (fun c d => ne c || eq d) rows.length (k + 1) (n - (k + 1)) e)) (fun e he => ?_) ?_
          · obtain ⟨e0, e1⟩ := near_mem he
            obtain ⟨j, rfl⟩ := Int.eq_ofNat_of_zero_le e0
            have hj : j < rows.length + 1 := by omega
            simp [rowD, rowB, wipeE, atI_nat, hj]
          · have hn : (near rows.length (x : Int)).length ≤ 3 := List.length_filter_le _ [(x : Int) - 1, (x : Int), (x : Int) + 1]
            have eg := e_greatest st ((near rows.length (x : Int)).map (best (W rows) (fun c d => ne c || eq d) rows.length (k + 1) (n - (k + 1)))) (by rw [List.length_map]; omega)
            rw [List.map_map] at eg
            have hn2 : (near rows.length (x : Int)).length ≤ 1000000 := by omega
            simp [hn2]
            refine wp_step eg ?_
            simp
      · have hT4 : pre.length < 1000000 := by omega
        simp
        rw [eL x]
        generalize (if k = 0 then some 0 else gt ((near rows.length (x : Int)).map (best (W rows) (fun c d => ne c || eq d) rows.length k (n - k)))) = L
        cases L with
        | none => simp [hT4]
        | some L =>
          simp [h1, h2, hT4]
          have ew := e_depth_worth st h (c := n - (k + 1)) (by omega) (x : Int) (by omega)
          cases ne (n - (k + 1)) <;> cases eq x <;> simp [ew]
    · rintro env st' ⟨rfl, x8, x9, x10, rfl⟩
      have hT : ((tabl (W rows) (fun c d => ne c || eq d) rows.length n k).map rowD).length ≤ 4 := by
        rw [List.length_map, tabl_len]
        omega
      rw [List.length_map] at hT
      simp
      exact ⟨by omega, by simp [← ek, tabl, rowB, rowD]⟩
  · rintro env st' ⟨rfl, x6, x7, x8, x9, x10, rfl⟩
    simp
end Pv.K20

/-! # M6 -/
set_option Elab.async false
set_option linter.all false
set_option maxHeartbeats 2000000
set_option maxRecDepth 10000
namespace Pv.K20
open PySem Pv
/-! reading a table -/
section
variable (R : Nat → Int → Option Int) (m : Nat)
def depths : List Int := (List.range (m + 1)).map fun (i : Nat) => (i : Int)
def cands (p : List Int) : List Int := match p.getLast? with
  | none => depths m
  | some d => near m d
def good (j : Nat) (ds : List Int) : List Int := ds.filter fun e => (R j e).isSome && R j e == gt (ds.map (R j))
def path : Nat → List Int
  | 0 => []
  | j + 1 => path j ++ [(good R j (cands m (path j))).headD 0]
theorem path_len (j : Nat) : (path R m j).length = j := by
  induction j with
  | zero => rfl
  | succ j ih => simp [path, ih]
def rowR (j : Nat) : List (Option Int) := (List.range (m + 1)).map fun (i : Nat) => R j (i : Int)
end
theorem cands_mem {m : Nat} {p : List Int} {e : Int} (h : e ∈ cands m p) : 0 ≤ e ∧ e ≤ m := by
  unfold cands at h
  split at h
  · simp [depths] at h
    obtain ⟨i, hi, rfl⟩ := h
    omega
  · exact near_mem h
theorem cands_len {m : Nat} (hm : m ≤ 3) (p : List Int) : (cands m p).length ≤ 4 := by
  unfold cands
  split
  · simp [depths]; omega
  · exact Nat.le_trans (List.length_filter_le _ _) (by simp)
theorem row_at {R : Nat → Int → Option Int} {m j : Nat} {e : Int} (h : 0 ≤ e ∧ e ≤ m) : L2.atI ((rowR R m j).map oD) e = some (oD (R j e)) := by
  obtain ⟨i, rfl⟩ := Int.eq_ofNat_of_zero_le h.1
  have hi : i < m + 1 := by omega
  simp [atI_nat, rowR, hi]
theorem e_read {rows : List (List Int)} {n : Nat} (st : Ms) (h : Sh rows n) (R : Nat → Int → Option Int) (hg : ∀ j < n, good R j (cands rows.length (path R rows.length j)) ≠ []) :
    m_read_by [secD rows, .lst ((List.range n).map fun j => rowD (rowR R rows.length j)), .bl false] st = some (.tup ((path R rows.length n).map .int), st) := by
  have m2 := h.m2
  have n2 := h.n2
  rw [← wp_eq]
  refine wp_mkFn (by rfl) ?_
  simp [F_read_by, wp_sFor]
  refine wp_for (α := Nat) (List.range n) _ (fun (pre : List Nat) (env : Env) (st' : Ms) => st = st' ∧ ∃ x4 x5 x6 : Option D, env = [some (secD rows), some (.lst ((List.range n).map fun j => rowD (rowR R rows.length j))), some (.bl false), some (.own ((path R rows.length pre.length).map .int)), x4, x5, x6, none, none]) ⟨rfl, none, none, none, rfl⟩ ?_ ?_
  · rintro pre x post env st' e ⟨rfl, x4, x5, x6, rfl⟩
    obtain ⟨ex, hx⟩ := range_split e
    subst ex
    obtain ⟨j, ej⟩ : ∃ j, j = pre.length := ⟨_, rfl⟩
    rw [← ej] at hx e ⊢
    have hgj := hg j hx
    have hcl := cands_len m2 (path R rows.length j)
    have hpl := path_len R rows.length j
    have hps : (path R rows.length (j + 1)) = path R rows.length j ++ [(good R j (cands rows.length (path R rows.length j))).headD 0] := rfl
    have hpe : (path R rows.length (pre ++ [j]).length) = path R rows.length (j + 1) := by rw [List.length_append, ← ej]; rfl
    rw [gN_ev, if_pos (by simp), wp_some, wp_sSeq, wp_sAsg]
    simp only [List.set_cons_succ, List.set_cons_zero]
    refine wp_val (.own ((cands rows.length (path R rows.length j)).map .int)) ?_ ?_
    · rw [← wp_eq]
      simp
      rw [neD_nil_own (by simp) (by simp) (by simp)]
      cases eg : (path R rows.length j).getLast? with
      | none =>
        have : path R rows.length j = [] := by simpa using eg
        simp [this, cands, depths, rowD, rowR, okR, rgD, steps_eq]
        omega
      | some d =>
        have : path R rows.length j ≠ [] := by rintro z; rw [z] at eg; simp at eg
        simp [this, cands, eg, e_near]
    · simp
      generalize ecs : cands rows.length (path R rows.length j) = cs at hgj hcl hps ⊢
      have hcm : ∀ e ∈ cs, 0 ≤ e ∧ e ≤ rows.length := fun e he => cands_mem (ecs ▸ he)
      simp [wp_fComp, okAt, wipeE, restE]
      refine wp_each (α := Int) cs D.int (fun e => oD (R j e)) (fun e he => ?_) ?_
      · simp [rowD, wipeE, row_at (hcm e he)]
      · have eg := e_greatest st (cs.map (R j)) (by rw [List.length_map]; omega)
        rw [List.map_map] at eg
        have hl2 : cs.length ≤ 1000000 := by omega
        simp [hl2]
        refine wp_step eg ?_
        simp [wp_fComp, okAt, wipeE, restE]
        refine wp_map (α := Int) cs D.int (fun e => (R j e).isSome && R j e == gt (cs.map (R j))) D.int (fun e he => ?_) ?_
        · simp [rowD, row_at (hcm e he)]
          generalize gt (cs.map (R j)) = G
          cases R j e with
          | none => simp [wipeE]
          | some v =>
            cases G with
            | none => simp [wipeE]
            | some g => by_cases hv : v = g <;> simp [wipeE, hv]
        · change _ ∧ _
          have hgl : (good R j cs).length ≤ 1000000 := Nat.le_trans (List.length_filter_le _ _) (by omega)
          simp only [List.length_map]
          refine ⟨hgl, ?_⟩
          cases egd : good R j cs with
          | nil => exact absurd egd hgj
          | cons g0 gr =>
            have egd' : cs.filter (fun e => (R j e).isSome && R j e == gt (cs.map (R j))) = g0 :: gr := egd
            rw [egd']
            simp
            exact ⟨by omega, by rw [← ej, hps, egd]; simp⟩
  · rintro env st' ⟨rfl, x4, x5, x6, rfl⟩
    simp
end Pv.K20

/-! # M7 -/
set_option Elab.async false
set_option linter.all false
set_option maxHeartbeats 2000000
set_option maxRecDepth 10000
namespace Pv.K20
open PySem Pv
theorem tabl_eq (w : Nat → Int → Int) (ok : Nat → Int → Bool) (m n : Nat) : ∀ k, k ≤ n → tabl w ok m n k = (List.range k).map fun j => rowB w ok m (k - j) (n - k + j)
  | 0, _ => rfl
  | k + 1, h => by
    rw [tabl, tabl_eq w ok m n k (by omega), List.range_succ_eq_map, List.map_cons, List.map_map]
    congr 1
    refine List.map_congr_left fun j hj => ?_
    show rowB w ok m (k - j) (n - k + j) = rowB w ok m (k + 1 - (j + 1)) (n - (k + 1) + (j + 1))
    have e1 : k + 1 - (j + 1) = k - j := by omega
    have e2 : n - (k + 1) + (j + 1) = n - k + j := by omega
    rw [e1, e2]
/-- the first row; the rows as they are read -/
abbrev Bst (rows : List (List Int)) (ok : Nat → Int → Bool) (n : Nat) (j : Nat) (e : Int) : Option Int := best (W rows) ok rows.length (n - j) j e
theorem tab_rows (rows : List (List Int)) (ok : Nat → Int → Bool) (n : Nat) : tabl (W rows) ok rows.length n n = (List.range n).map fun j => rowR (Bst rows ok n) rows.length j := by
  rw [tabl_eq _ _ _ _ _ (Nat.le_refl n)]
  refine List.map_congr_left fun j hj => ?_
  rw [show n - n + j = j by omega]
  rfl
def okP (c0 : Nat) (d0 : Int) (c : Nat) (d : Int) : Bool := !decide (c = c0) || decide (d = d0)
def okA (c : Nat) (d : Int) : Bool := true || true
theorem e_table_at {rows : List (List Int)} {n : Nat} (st : Ms) (h : Sh rows n) (c0 : Nat) (d0 : Int) :
    m_table_by [secD rows, .int c0, .int d0] st = some (.own ((List.range n).map fun j => rowD (rowR (Bst rows (okP c0 d0) n) rows.length j)), st) := by
  rw [e_table st h (by simp) (by simp) (fun c => !decide (c = c0)) (fun d => decide (d = d0)) (by intro c st; simp; exact Int.ofNat_inj) (by intro c st; simp)]
  show some (D.own ((tabl (W rows) (okP c0 d0) rows.length n n).map rowD), st) = _
  rw [tab_rows, List.map_map]
  rfl
theorem e_table_all {rows : List (List Int)} {n : Nat} (st : Ms) (h : Sh rows n) :
    m_table_by [secD rows, .non, .non] st = some (.own ((List.range n).map fun j => rowD (rowR (Bst rows okA n) rows.length j)), st) := by
  rw [e_table st h (by simp) (by simp) (fun c => true) (fun d => false) (by intro c st; simp) (by intro c st; rfl)]
  have e : (fun (c : Nat) (d : Int) => true || false) = okA := rfl
  rw [e, tab_rows, List.map_map]
  rfl
theorem row0 {rows : List (List Int)} {n : Nat} (h : Sh rows n) (R : Nat → Int → Option Int) : ((List.range n).map fun j => rowD (rowR R rows.length j))[0]? = some (rowD (rowR R rows.length 0)) := by
  have := h.n1
  rw [List.getElem?_map, List.getElem?_range (by omega)]
  rfl
theorem e_through_by {rows : List (List Int)} {n : Nat} (st : Ms) (h : Sh rows n) (c0 : Nat) (d0 : Int) :
    m_through_by [secD rows, .int c0, .int d0] st = some (oD (gt (rowR (Bst rows (okP c0 d0) n) rows.length 0)), st) := by
  have hl : (rowR (Bst rows (okP c0 d0) n) rows.length 0).length ≤ 1000 := by
    have := h.m2
    simp [rowR]
    omega
  rw [← wp_eq]
  refine wp_mkFn (by rfl) ?_
  simp [F_through_by, e_table_at st h, row0 h]
  simp [rowD, e_greatest st _ hl]
theorem e_best_by {rows : List (List Int)} {n : Nat} (st : Ms) (h : Sh rows n) {x : Int} {r : List Int} (hr : rowR (Bst rows okA n) rows.length 0 = (x :: r).map some) :
    m_best_by [secD rows] st = some (.int (r.foldl max x), st) := by
  rw [← wp_eq]
  refine wp_mkFn (by rfl) ?_
  have e := ext_max_lst (st := st) (x := x) (r := r)
  rw [List.map_cons] at e
  simp [F_best_by, e_table_all st h, row0 h]
  simp [rowD, hr]
  refine wp_step e ?_
  simp
theorem e_best_worth {rows : List (List Int)} {n : Nat} (st : Ms) (h : Sh rows n) {x : Int} {r : List Int} (hr : rowR (Bst rows okA n) rows.length 0 = (x :: r).map some) :
    m_best_worth [secD rows] st = some (.int (r.foldl max x), st) := by
  rw [← wp_eq]
  refine wp_mkFn (by rfl) ?_
  simp [F_best_worth, e_check_section st h, e_best_by st h hr]
theorem e_is_count (i : Int) (hi : 0 ≤ i) (st : Ms) : m_is_count [.int i] st = some (.bl true, st) := by
  rw [← wp_eq]
  refine wp_mkFn (by rfl) ?_
  simp [F_is_count, e_is_integer, hi]
theorem e_is_position (i j : Int) (hi : 0 ≤ i) (hj : i < j) (st : Ms) : m_is_position [.int i, .int j] st = some (.bl true, st) := by
  rw [← wp_eq]
  refine wp_mkFn (by rfl) ?_
  simp [F_is_position, e_is_count i hi, hj]
theorem e_check_column {rows : List (List Int)} {n : Nat} (st : Ms) (h : Sh rows n) (c : Nat) (hc : c < n) : m_check_column [secD rows, .int c] st = some (.non, st) := by
  rw [← wp_eq]
  refine wp_mkFn (by rfl) ?_
  simp [F_check_column, e_check_section st h, e_columns_of st h]
  rw [e_is_position _ _ (by omega) (by omega)]
  simp
theorem e_check_place {rows : List (List Int)} {n : Nat} (st : Ms) (h : Sh rows n) (c : Nat) (hc : c < n) (d : Int) (hd : 0 ≤ d) (hd2 : d ≤ rows.length) : m_check_place [secD rows, .int c, .int d] st = some (.non, st) := by
  rw [← wp_eq]
  refine wp_mkFn (by rfl) ?_
  simp [F_check_place, e_check_column st h c hc, e_benches_of, e_is_count d hd, hd2]
theorem e_worth_through {rows : List (List Int)} {n : Nat} (st : Ms) (h : Sh rows n) (c : Nat) (hc : c < n) (d : Int) (hd : 0 ≤ d) (hd2 : d ≤ rows.length) :
    m_worth_through [secD rows, .int c, .int d] st = some (oD (gt (rowR (Bst rows (okP c d) n) rows.length 0)), st) := by
  rw [← wp_eq]
  refine wp_mkFn (by rfl) ?_
  simp [F_worth_through, e_check_place st h c hc d hd hd2, e_through_by st h]
theorem e_profile_through {rows : List (List Int)} {n : Nat} (st : Ms) (h : Sh rows n) (c : Nat) (hc : c < n) (d : Int) (hd : 0 ≤ d) (hd2 : d ≤ rows.length) (hg : ∀ j < n, good (Bst rows (okP c d) n) j (cands rows.length (path (Bst rows (okP c d) n) rows.length j)) ≠ []) :
    m_profile_through [secD rows, .int c, .int d] st = some (.tup ((path (Bst rows (okP c d) n) rows.length n).map .int), st) := by
  rw [← wp_eq]
  refine wp_mkFn (by rfl) ?_
  simp [F_profile_through, e_check_place st h c hc d hd hd2, e_table_at st h]
  rw [e_read st h _ hg]
  simp
theorem e_loss {rows : List (List Int)} {n : Nat} (st : Ms) (h : Sh rows n) (c : Nat) (hc : c < n) (d : Int) (hd : 0 ≤ d) (hd2 : d ≤ rows.length) {x y : Int} {r : List Int} (hr : rowR (Bst rows okA n) rows.length 0 = (x :: r).map some) (hy : gt (rowR (Bst rows (okP c d) n) rows.length 0) = some y) :
    m_loss [secD rows, .int c, .int d] st = some (.int (r.foldl max x - y), st) := by
  rw [← wp_eq]
  refine wp_mkFn (by rfl) ?_
  simp [F_loss, e_check_place st h c hc d hd hd2, e_best_by st h hr, e_through_by st h, hy]
end Pv.K20

/-! # M8 -/
set_option Elab.async false
set_option linter.all false
set_option maxHeartbeats 2000000
set_option maxRecDepth 10000
namespace Pv.K20
open PySem Pv
theorem e_down {rows : List (List Int)} {n c : Nat} (st : Ms) (h : Sh rows n) (hc : c < n) (d : Int) (hd : 0 ≤ d) (hd2 : d ≤ rows.length) : m__law_down [secD rows, .int c, .int d] st = some (.int (W rows c d), st) := by
  obtain ⟨k, rfl⟩ := Int.eq_ofNat_of_zero_le hd
  have m2 := h.m2
  rw [← wp_eq]
  refine wp_mkFn (by rfl) ?_
  simp [F__law_down, wp_fComp, okAt, wipeE, restE, okR]
  refine ⟨by omega, ?_⟩
  rw [steps_eq]
  refine wp_each (α := Nat) (List.range k) _ (fun i => .int ((rows.getD i []).getD c 0)) (fun i hi => ?_) ?_
  · have hi2 : i < rows.length := by
      have := List.mem_range.mp hi
      omega
    have rx := h.row rows[i] (List.getElem_mem hi2)
    have hc2 : c < (rows[i]).length := by rw [rx.len]; exact hc
    simp [secD, bD, wipeE, atI_nat, hi2, hc2]
  · have e : (rows.take k).map (fun r => r.getD c 0) = (List.range k).map fun i => (rows.getD i []).getD c 0 := by
      apply List.ext_getElem?
      intro i
      by_cases hi : i < k
      · have hi2 : i < rows.length := by omega
        simp [hi, hi2]
      · simp [hi]
        omega
    dsimp only
    rw [sumD_map, ← e]
    simp [W]
    omega
def val (w : Nat → Int → Int) : Nat → List Int → Int
  | _, [] => 0
  | c, d :: p => w c d + val w (c + 1) p
def pD (p : List Int) : D := .tup (p.map .int)
@[simp] theorem pD_fz {p : List Int} : (pD p).fz = pD p := by simp [pD]
@[simp] theorem pD_of {p : List Int} : (pD p).of = true := by simp [pD]
@[simp] theorem pD_nc {p : List Int} : (pD p).nc = true := by simp [pD]
def enumZ : Nat → List Int → List (Nat × Int)
  | _, [] => []
  | i, d :: l => (i, d) :: enumZ (i + 1) l
theorem enum_z : ∀ (i : Nat) (p : List Int), enumD i (p.map .int) = (enumZ i p).map fun x => .tup [.int (x.1 : Int), .int x.2]
  | _, [] => rfl
  | i, d :: l => by
    show D.tup [.int (i : Int), .int d] :: enumD (i + 1) (l.map .int) = _
    rw [enum_z (i + 1) l]
    rfl
theorem enumZ_len : ∀ (i : Nat) (p : List Int), (enumZ i p).length = p.length
  | _, [] => rfl
  | i, d :: l => by simp [enumZ, enumZ_len (i + 1) l]
theorem enumZ_mem : ∀ (i : Nat) (p : List Int) (x : Nat × Int), x ∈ enumZ i p → i ≤ x.1 ∧ x.1 < i + p.length ∧ x.2 ∈ p
  | _, [], _, h => nomatch h
  | i, d :: l, x, h => by
    rcases List.mem_cons.mp h with rfl | h
    · simp
    · have := enumZ_mem (i + 1) l x h
      simp
      exact ⟨by omega, by omega, .inr this.2.2⟩
theorem enumZ_sum (w : Nat → Int → Int) : ∀ (i : Nat) (p : List Int), ((enumZ i p).map fun x => w x.1 x.2).sum = val w i p
  | _, [] => rfl
  | i, d :: l => by simp [enumZ, val, enumZ_sum w (i + 1) l]
theorem e_worth {rows : List (List Int)} {n : Nat} (st : Ms) (h : Sh rows n) (p : List Int) (hp : p.length = n) (hb : ∀ d ∈ p, 0 ≤ d ∧ d ≤ rows.length) : m__law_worth [secD rows, pD p] st = some (.int (val (W rows) 0 p), st) := by
  have n2 := h.n2
  rw [← wp_eq]
  refine wp_mkFn (by rfl) ?_
  simp [F__law_worth, wp_fComp, okAt, wipeE, restE, pD]
  rw [enum_z]
  refine wp_each (α := Nat × Int) (enumZ 0 p) _ (fun x => .int (W rows x.1 x.2)) (fun x hx => ?_) ?_
  · obtain ⟨h1, h2, h3⟩ := enumZ_mem 0 p x hx
    obtain ⟨h4, h5⟩ := hb _ h3
    simp [e_down st h (c := x.1) (by omega) x.2 h4 h5, wipeE]
  · dsimp only
    rw [sumD_map, enumZ_sum]
    simp [enumZ_len]
    omega
/-- every profile, in the law's own order -/
def grow (m : Nat) (ps : List (List Int)) : List (List Int) := ps.flatMap fun p => ((depths m).filter fun d => p.isEmpty || decide ((if d - p.getLast?.getD 0 < 0 then -(d - p.getLast?.getD 0) else d - p.getLast?.getD 0) ≤ 1)).map fun d => p ++ [d]
def profs (m : Nat) : Nat → List (List Int)
  | 0 => [[]]
  | k + 1 => grow m (profs m k)
theorem grow_len (m : Nat) (ps : List (List Int)) : (grow m ps).length ≤ (m + 1) * ps.length := by
  unfold grow
  induction ps with
  | nil => simp
  | cons p ps ih =>
    rw [List.flatMap_cons, List.length_append, List.length_map, List.length_cons, Nat.mul_succ, Nat.add_comm]
    refine Nat.add_le_add ih (Nat.le_trans (List.length_filter_le _ _) ?_)
    simp [depths]
theorem profs_len {m : Nat} (hm : m ≤ 3) : ∀ k, (profs m k).length ≤ 4 ^ k
  | 0 => by simp [profs]
  | k + 1 => by
    refine Nat.le_trans (grow_len m _) ?_
    rw [Nat.pow_succ, Nat.mul_comm]
    exact Nat.mul_le_mul (profs_len hm k) (by omega)
/-- a way of depths that goes by one at most -/
def Ch (m : Nat) : List Int → Prop
  | [] => True
  | [d] => 0 ≤ d ∧ d ≤ m
  | d :: e :: p => (0 ≤ d ∧ d ≤ m) ∧ (-1 ≤ e - d ∧ e - d ≤ 1) ∧ Ch m (e :: p)
theorem ch_snoc (m : Nat) (d : Int) : ∀ p : List Int, Ch m (p ++ [d]) ↔ Ch m p ∧ (0 ≤ d ∧ d ≤ m) ∧ (p = [] ∨ (-1 ≤ d - p.getLast?.getD 0 ∧ d - p.getLast?.getD 0 ≤ 1))
  | [] => by simp [Ch]
  | [e] => by
    simp [Ch]
    omega
  | e :: f :: p => by
    have ih := ch_snoc m d (f :: p)
    show ((0 ≤ e ∧ e ≤ m) ∧ (-1 ≤ f - e ∧ f - e ≤ 1) ∧ Ch m ((f :: p) ++ [d])) ↔ _
    rw [ih]
    simp only [Ch, List.getLast?_cons_cons, and_assoc, List.cons_ne_nil, false_or, reduceCtorEq]
theorem mem_depths {m : Nat} {d : Int} : d ∈ depths m ↔ 0 ≤ d ∧ d ≤ m := by
  unfold depths
  constructor
  · intro h
    simp at h
    obtain ⟨i, hi, rfl⟩ := h
    omega
  · rintro ⟨h0, h1⟩
    obtain ⟨i, rfl⟩ := Int.eq_ofNat_of_zero_le h0
    exact List.mem_map.mpr ⟨i, List.mem_range.mpr (by omega), rfl⟩
theorem mem_profs (m : Nat) : ∀ (k : Nat) (p : List Int), p ∈ profs m k ↔ p.length = k ∧ Ch m p
  | 0, p => by
    simp [profs]
    rintro rfl
    trivial
  | k + 1, p => by
    show p ∈ grow m (profs m k) ↔ _
    unfold grow
    simp only [List.mem_flatMap, List.mem_map, List.mem_filter, mem_depths]
    constructor
    · rintro ⟨q, hq, d, ⟨hd, hl⟩, rfl⟩
      obtain ⟨l, c⟩ := (mem_profs m k q).mp hq
      refine ⟨by simp [l], (ch_snoc m d q).mpr ⟨c, hd, ?_⟩⟩
      simp at hl
      rcases hl with h | h
      · exact .inl h
      · right
        split at h <;> omega
    · rintro ⟨l, c⟩
      have hne : p ≠ [] := by rintro rfl; simp at l
      obtain ⟨q, d, rfl⟩ : ∃ q d, p = q ++ [d] := ⟨p.dropLast, p.getLast hne, (List.dropLast_concat_getLast hne).symm⟩
      obtain ⟨c1, c2, c3⟩ := (ch_snoc m d q).mp c
      refine ⟨q, (mem_profs m k q).mpr ⟨by simpa using l, c1⟩, d, ⟨c2, ?_⟩, rfl⟩
      simp
      rcases c3 with h | h
      · exact .inl h
      · right
        split <;> omega
theorem e_profiles {rows : List (List Int)} {n : Nat} (st : Ms) (h : Sh rows n) : m__law_profiles [secD rows] st = some (.lst ((profs rows.length n).map pD), st) := by
  obtain ⟨r0, e0, l0⟩ := h.r0
  have m1 := h.m1
  have m2 := h.m2
  have n1 := h.n1
  have n2 := h.n2
  rw [← wp_eq]
  refine wp_mkFn (by rfl) ?_
  simp [F__law_profiles, wp_sFor, secD, e0, okR, bD, l0]
  refine ⟨by omega, ?_⟩
  rw [steps_eq]
  refine wp_for (α := Nat) (List.range n) _ (fun (pre : List Nat) (env : Env) (st' : Ms) => st = st' ∧ ∃ x3 x4 x5 : Option D, ∃ fd : D, (fd = .lst ((profs rows.length pre.length).map pD) ∨ (pre = [] ∧ fd = .own [.tup []])) ∧ env = [some (secD rows), some (.int rows.length), some fd, x3, x4, x5, none]) ⟨rfl, none, none, none, _, .inr ⟨rfl, rfl⟩, rfl⟩ ?_ ?_
  · rintro pre x post env st' e ⟨rfl, x3, x4, x5, fd, hfd, rfl⟩
    obtain ⟨ex, hx⟩ := range_split e
    obtain ⟨j, ej⟩ : ∃ j, j = pre.length := ⟨_, rfl⟩
    rw [← ex] at hfd
    have hfz : fd.fz = .lst ((profs rows.length x).map pD) := by
      rcases hfd with rfl | ⟨rfl, rfl⟩
      · simp
      · subst ex
        simp [profs, pD]
    have hpl : (profs rows.length x).length ≤ 256 := Nat.le_trans (profs_len m2 x) (Nat.le_trans (Nat.pow_le_pow_right (by decide) (show x ≤ 4 by omega)) (by decide))
    have hpx : profs rows.length (pre ++ [x]).length = grow rows.length (profs rows.length x) := by rw [List.length_append, ← ex]; rfl
    simp [wp_sFor, hfz]
    refine wp_for (α := List Int) (profs rows.length x) pD (fun (pre2 : List (List Int)) (env : Env) (st' : Ms) => st = st' ∧ ∃ x5 : Option D, env = [some (secD rows), some (.int rows.length), some (.lst ((profs rows.length x).map pD)), some (.int x), some (.own ((grow rows.length pre2).map pD)), x5, none]) ⟨rfl, x5, rfl⟩ ?_ ?_
    · rintro pre2 p post2 env st' e2 ⟨rfl, x5, rfl⟩
      have hg2 : (grow rows.length pre2).length ≤ 4 * 256 := by
        refine Nat.le_trans (grow_len _ _) (Nat.mul_le_mul (by omega) ?_)
        have := congrArg List.length e2
        simp at this
        omega
      simp [wp_fComp, okAt, wipeE, restE, okR]
      refine ⟨by omega, ?_⟩
      have es : steps 0 1 (rows.length + 1) = (depths rows.length).map D.int := by simp [steps_eq, depths]
      rw [es]
      have hgp : grow rows.length (pre2 ++ [p]) = grow rows.length pre2 ++ ((depths rows.length).filter fun d => p.isEmpty || decide ((if d - p.getLast?.getD 0 < 0 then -(d - p.getLast?.getD 0) else d - p.getLast?.getD 0) ≤ 1)).map fun d => p ++ [d] := by simp [grow]
      have hpp : p.length ≤ 4 := by
        have := ((mem_profs rows.length x p).mp (by rw [e2]; simp)).1
        omega
      refine wp_map (α := Int) (depths rows.length) D.int (fun d => p.isEmpty || decide ((if d - p.getLast?.getD 0 < 0 then -(d - p.getLast?.getD 0) else d - p.getLast?.getD 0) ≤ 1)) (fun d => pD (p ++ [d])) (fun d hd => ?_) ?_
      · have el : 1 + p.length ≤ 1000000 ∧ p.length + 1 ≤ 1000000 := by omega
        simp
        rw [show pD p = .tup (p.map .int) from rfl, eqD_nil_tup (by simp) (by simp) (by simp)]
        cases ep : p with
        | nil => simp [pD, wipeE]
        | cons y q =>
          obtain ⟨z, ez⟩ : ∃ z, (y :: q).getLast? = some z := ⟨_, List.getLast?_eq_some_getLast (by simp)⟩
          subst ep
          have ez2 : (D.int y :: q.map D.int).getLast? = some (.int z) := by
            rw [← List.map_cons, List.getLast?_map, ez]; rfl
          have hq : q.length ≤ 999998 := by simp at hpp; omega
          simp [ez, ez2, pD]
          generalize (if d - z < 0 then -(d - z) else d - z) = t
          by_cases ht : t ≤ 1
          · simp [ht, wipeE, hq]
          · simp [ht, wipeE]
            omega
      · rw [hgp] at *
        have hfl : ((depths rows.length).filter fun d => p.isEmpty || decide ((if d - p.getLast?.getD 0 < 0 then -(d - p.getLast?.getD 0) else d - p.getLast?.getD 0) ≤ 1)).length ≤ 4 := by
          refine Nat.le_trans (List.length_filter_le _ _) ?_
          simp [depths]
          omega
        simp only [List.length_map, fzs_map, pD_fz]
        refine ⟨by omega, _, rfl, ?_, trivial, some (pD p), ?_⟩
        · rw [List.length_map]
          omega
        · simp
    · rintro env st' ⟨rfl, x5, rfl⟩
      simp
      rw [← ex]
      rfl
  · rintro env st' ⟨rfl, x3, x4, x5, fd, hfd, rfl⟩
    rcases hfd with rfl | ⟨e, rfl⟩
    · simp
    · have := congrArg List.length e
      simp at this
      omega
end Pv.K20

/-! # M9 -/
set_option Elab.async false
set_option linter.all false
set_option maxHeartbeats 2000000
set_option maxRecDepth 10000
namespace Pv.K20
/-! the plain mathematics -/
theorem mem_near {m : Nat} {d e : Int} : e ∈ near m d ↔ (0 ≤ e ∧ e ≤ m) ∧ -1 ≤ e - d ∧ e - d ≤ 1 := by
  unfold near
  simp
  omega
theorem foldl_max : ∀ (r : List Int) (x : Int), (r.foldl max x = x ∨ r.foldl max x ∈ r) ∧ x ≤ r.foldl max x ∧ ∀ y ∈ r, y ≤ r.foldl max x
  | [], x => ⟨.inl rfl, Int.le_refl _, fun y h => nomatch h⟩
  | z :: r, x => by
    obtain ⟨h1, h2, h3⟩ := foldl_max r (max x z)
    rw [List.foldl_cons]
    refine ⟨?_, by omega, fun y hy => ?_⟩
    · rcases h1 with h1 | h1
      · rw [h1]
        by_cases c : x ≤ z
        · exact .inr (by rw [Int.max_eq_right c]; exact List.mem_cons_self)
        · exact .inl (Int.max_eq_left (by omega))
      · exact .inr (List.mem_cons_of_mem _ h1)
    · rcases List.mem_cons.mp hy with rfl | hy
      · omega
      · exact h3 y hy
theorem mem_fm {xs : List (Option Int)} {v : Int} : v ∈ xs.filterMap id ↔ some v ∈ xs := by simp
theorem gt_none {xs : List (Option Int)} (h : gt xs = none) : ∀ v, some v ∉ xs := fun v hv => by
  unfold gt at h
  split at h
  · rename_i e
    have := mem_fm.mpr hv
    rw [e] at this
    cases this
  · cases h
theorem gt_some {xs : List (Option Int)} {g : Int} (h : gt xs = some g) : some g ∈ xs ∧ ∀ v, some v ∈ xs → v ≤ g := by
  unfold gt at h
  split at h
  · cases h
  · rename_i x r e
    cases h
    obtain ⟨h1, h2, h3⟩ := foldl_max r x
    refine ⟨mem_fm.mp ?_, fun v hv => ?_⟩
    · rw [e]
      rcases h1 with h1 | h1
      · rw [h1]; exact List.mem_cons_self
      · exact List.mem_cons_of_mem _ h1
    · have := mem_fm.mpr hv
      rw [e] at this
      rcases List.mem_cons.mp this with rfl | this
      · exact h2
      · exact h3 v this
theorem gt_ex {xs : List (Option Int)} {v : Int} (h : some v ∈ xs) : ∃ g, gt xs = some g := by
  cases e : gt xs with
  | none => exact absurd h (gt_none e v)
  | some g => exact ⟨g, rfl⟩
section
variable {w : Nat → Int → Int} {ok : Nat → Int → Bool} {m : Nat}
def okl (ok : Nat → Int → Bool) : Nat → List Int → Prop
  | _, [] => True
  | c, d :: p => ok c d = true ∧ okl ok (c + 1) p
/-- a way of k columns from column c, the first at d -/
structure Vd (ok : Nat → Int → Bool) (m k c : Nat) (d : Int) (p : List Int) : Prop where
  len : p.length = k
  hd : p.head? = some d
  ch : Ch m p
  ok : okl ok c p
theorem Vd.cons {k c : Nat} {d e : Int} {p : List Int} (hd : 0 ≤ d ∧ d ≤ m) (ho : ok c d = true) (he : e ∈ near m d) (h : Vd ok m k (c + 1) e p) : Vd ok m (k + 1) c d (d :: p) := by
  obtain ⟨l, hh, ch, o⟩ := h
  have hn := mem_near.mp he
  cases p with
  | nil => cases hh
  | cons f q =>
    cases hh
    exact ⟨by simpa using l, rfl, ⟨hd, by omega, ch⟩, ho, o⟩
theorem Vd.one {c : Nat} {d : Int} (hd : 0 ≤ d ∧ d ≤ m) (ho : ok c d = true) : Vd ok m 1 c d [d] := ⟨rfl, rfl, hd, ho, trivial⟩
theorem Vd.inv {k c : Nat} {d : Int} {p : List Int} (h : Vd ok m (k + 2) c d p) : ok c d = true ∧ ∃ e q, p = d :: q ∧ e ∈ near m d ∧ Vd ok m (k + 1) (c + 1) e q := by
  obtain ⟨l, hh, ch, o⟩ := h
  match p, l, hh, ch, o with
  | _ :: e :: q, l, hh, ch, o =>
    cases hh
    obtain ⟨c1, c2, c3⟩ := ch
    refine ⟨o.1, e, e :: q, rfl, mem_near.mpr ⟨?_, by omega⟩, by simpa using l, rfl, c3, o.2⟩
    cases q with
    | nil => exact c3
    | cons f q => exact c3.1
theorem Vd.inv1 {c : Nat} {d : Int} {p : List Int} (h : Vd ok m 1 c d p) : ok c d = true ∧ p = [d] := by
  obtain ⟨l, hh, ch, o⟩ := h
  match p, l, hh, o with
  | [_], l, hh, o =>
    cases hh
    exact ⟨o.1, rfl⟩
theorem best_succ {k c : Nat} {d : Int} : best w ok m (k + 2) c d = match gt ((near m d).map (best w ok m (k + 1) (c + 1))) with
    | none => none
    | some l => if ok c d = true then some (w c d + l) else none := by
  rw [best, if_neg (by omega)]
  try rfl
theorem best_one {c : Nat} {d : Int} : best w ok m 1 c d = if ok c d = true then some (w c d) else none := by
  rw [best, if_pos rfl]
  simp
theorem best_spec : ∀ (k c : Nat) (d : Int), 0 ≤ d ∧ d ≤ m → (best w ok m (k + 1) c d = none → ∀ p, ¬ Vd ok m (k + 1) c d p) ∧
    ∀ v, best w ok m (k + 1) c d = some v → (∃ p, Vd ok m (k + 1) c d p ∧ val w c p = v) ∧ ∀ p, Vd ok m (k + 1) c d p → val w c p ≤ v
  | 0, c, d, hd => by
    rw [best_one]
    constructor
    · intro h p hp
      have := hp.inv1.1
      rw [if_pos this] at h
      cases h
    · intro v h
      by_cases ho : ok c d = true
      · rw [if_pos ho] at h
        cases h
        refine ⟨⟨[d], .one hd ho, by simp [val]⟩, fun p hp => ?_⟩
        rw [hp.inv1.2]
        simp [val]
      · rw [if_neg ho] at h
        cases h
  | k + 1, c, d, hd => by
    rw [best_succ]
    have ih := fun e (he : e ∈ near m d) => best_spec k (c + 1) e (mem_near.mp he).1
    cases eg : gt ((near m d).map (best w ok m (k + 1) (c + 1))) with
    | none =>
      refine ⟨fun _ p hp => ?_, fun v h => nomatch h⟩
      obtain ⟨ho, e, q, rfl, he, hq⟩ := hp.inv
      cases eb : best w ok m (k + 1) (c + 1) e with
      | none => exact (ih e he).1 eb q hq
      | some v => exact gt_none eg v (List.mem_map.mpr ⟨e, he, eb⟩)
    | some g =>
      obtain ⟨g1, g2⟩ := gt_some eg
      constructor
      · intro h p hp
        have := hp.inv.1
        simp [this] at h
      · intro v h
        by_cases ho : ok c d = true
        · simp [ho] at h
          subst h
          constructor
          · obtain ⟨e, he, eb⟩ := List.mem_map.mp g1
            obtain ⟨p, hp, hv⟩ := ((ih e he).2 g eb).1
            exact ⟨d :: p, hp.cons hd ho he, by simp [val, hv]⟩
          · intro p hp
            obtain ⟨_, e, q, rfl, he, hq⟩ := hp.inv
            cases eb : best w ok m (k + 1) (c + 1) e with
            | none => exact absurd hq ((ih e he).1 eb q)
            | some v =>
              have h1 := ((ih e he).2 v eb).2 q hq
              have h2 := g2 v (List.mem_map.mpr ⟨e, he, eb⟩)
              simp [val]
              omega
        · simp [ho] at h
/-! the greedy way -/
variable (R : Nat → Int → Option Int)
def gr (m : Nat) : Nat → Nat → List Int → List Int
  | 0, _, _ => []
  | k + 1, c, ds => (good R c ds).headD 0 :: gr m k (c + 1) (near m ((good R c ds).headD 0))
theorem path_gr : ∀ (k j : Nat), path R m (j + k) = path R m j ++ gr R m k j (cands m (path R m j))
  | 0, j => by simp [gr]
  | k + 1, j => by
    rw [show j + (k + 1) = (j + 1) + k by omega, path_gr k (j + 1)]
    have e : path R m (j + 1) = path R m j ++ [(good R j (cands m (path R m j))).headD 0] := rfl
    rw [e]
    have e2 : cands m (path R m j ++ [(good R j (cands m (path R m j))).headD 0]) = near m ((good R j (cands m (path R m j))).headD 0) := by
      unfold cands
      rw [List.getLast?_concat]
    rw [e2, gr]
    simp
theorem good_head {c : Nat} {ds : List Int} {M : Int} (h : gt (ds.map (R c)) = some M) : ∃ g rest, good R c ds = g :: rest ∧ g ∈ ds ∧ R c g = some M ∧ (ds.Pairwise (· < ·) → ∀ e ∈ ds, R c e = some M → g ≤ e) := by
  obtain ⟨g1, g2⟩ := gt_some h
  obtain ⟨e, he, eb⟩ := List.mem_map.mp g1
  have hme : e ∈ good R c ds := List.mem_filter.mpr ⟨he, by rw [h, eb]; simp⟩
  cases eg : good R c ds with
  | nil => rw [eg] at hme; cases hme
  | cons g rest =>
    have hg : g ∈ good R c ds := by rw [eg]; exact List.mem_cons_self
    obtain ⟨hg1, hg2⟩ := List.mem_filter.mp hg
    rw [h] at hg2
    simp at hg2
    refine ⟨g, rest, rfl, hg1, hg2.2, fun hs e he eb => ?_⟩
    have hme : e ∈ good R c ds := List.mem_filter.mpr ⟨he, by rw [h, eb]; simp⟩
    have hs2 : (good R c ds).Pairwise (· < ·) := hs.filter _
    rw [eg] at hme hs2
    rcases List.mem_cons.mp hme with rfl | hme
    · exact Int.le_refl _
    · exact Int.le_of_lt ((List.pairwise_cons.mp hs2).1 e hme)
theorem near_sorted (m : Nat) (d : Int) : (near m d).Pairwise (· < ·) := by
  refine List.Pairwise.filter _ ?_
  simp
  omega
theorem depths_sorted (m : Nat) : (depths m).Pairwise (· < ·) := by
  unfold depths
  rw [List.pairwise_map]
  exact List.pairwise_lt_range.imp fun h => by omega
theorem gr_opt (n : Nat) (hR : ∀ c e, R c e = best w ok m (n - c) c e) : ∀ (k c : Nat) (ds : List Int) (M : Int), c + (k + 1) = n → (∀ e ∈ ds, 0 ≤ e ∧ e ≤ m) → ds.Pairwise (· < ·) → gt (ds.map (R c)) = some M →
    ∃ g ∈ ds, Vd ok m (k + 1) c g (gr R m (k + 1) c ds) ∧ val w c (gr R m (k + 1) c ds) = M ∧ ∀ e ∈ ds, ∀ p, Vd ok m (k + 1) c e p → val w c p = M → ¬ p < gr R m (k + 1) c ds
  | 0, c, ds, M, hn, hb, hs, hg => by
    obtain ⟨g, rest, eg, gm, gR, gmin⟩ := good_head R hg
    have hRc : ∀ e, R c e = best w ok m 1 c e := fun e => by rw [hR, show n - c = 1 by omega]
    refine ⟨g, gm, ?_⟩
    have egr : gr R m 1 c ds = [g] := by rw [gr, eg]; rfl
    rw [Nat.zero_add, egr]
    have hgb := gR
    rw [hRc, best_one] at hgb
    by_cases ho : ok c g = true
    · rw [if_pos ho] at hgb
      cases hgb
      refine ⟨.one (hb g gm) ho, by simp [val], fun e he p hp hv => ?_⟩
      obtain ⟨ho2, rfl⟩ := hp.inv1
      simp [val] at hv
      have := gmin hs e he (by rw [hRc, best_one, if_pos ho2, hv])
      intro hlt
      rw [List.cons_lt_cons_iff] at hlt
      rcases hlt with h | ⟨_, h⟩
      · omega
      · exact absurd h (List.lt_irrefl _)
    · rw [if_neg ho] at hgb
      cases hgb
  | k + 1, c, ds, M, hn, hb, hs, hg => by
    obtain ⟨g, rest, eg, gm, gR, gmin⟩ := good_head R hg
    have hRc : ∀ e, R c e = best w ok m (k + 2) c e := fun e => by rw [hR, show n - c = k + 2 by omega]
    have hRc1 : R (c + 1) = best w ok m (k + 1) (c + 1) := funext fun e => by rw [hR, show n - (c + 1) = k + 1 by omega]
    refine ⟨g, gm, ?_⟩
    have egr : gr R m (k + 2) c ds = g :: gr R m (k + 1) (c + 1) (near m g) := by rw [gr, eg]; rfl
    rw [show k + 1 + 1 = k + 2 from rfl, egr]
    have hgb := gR
    rw [hRc, best_succ] at hgb
    cases en : gt ((near m g).map (best w ok m (k + 1) (c + 1))) with
    | none => rw [en] at hgb; cases hgb
    | some N =>
      rw [en] at hgb
      by_cases ho : ok c g = true
      · simp [ho] at hgb
        obtain ⟨f, fm, fv, fval, fmin⟩ := gr_opt n hR k (c + 1) (near m g) N (by omega) (fun e he => (mem_near.mp he).1) (near_sorted m g) (by rw [hRc1]; exact en)
        refine ⟨fv.cons (hb g gm) ho fm, by simp [val, fval, hgb], fun e he p hp hv => ?_⟩
        obtain ⟨ho2, e2, q, rfl, he2, hq⟩ := hp.inv
        simp [val] at hv
        -- e attains M as well
        have hbe := hb e he
        have sp := best_spec (w := w) (ok := ok) (m := m) (k + 1) c e hbe
        have heM : R c e = some M := by
          rw [hRc]
          cases eb : best w ok m (k + 2) c e with
          | none => exact absurd hp (sp.1 eb _)
          | some v =>
            have h1 := (sp.2 v eb).2 _ hp
            have h2 := (gt_some hg).2 v (List.mem_map.mpr ⟨e, he, by rw [hRc, eb]⟩)
            simp [val] at h1
            congr 1
            omega
        have hge := gmin hs e he heM
        intro hlt
        rw [List.cons_lt_cons_iff] at hlt
        rcases hlt with h | ⟨h, h2⟩
        · omega
        · subst h
          exact fmin e2 he2 q hq (by omega) h2
      · simp [ho] at hgb
theorem good_path (n : Nat) (hR : ∀ c e, R c e = best w ok m (n - c) c e) (h0 : gt ((depths m).map (R 0)) ≠ none) : ∀ j, j < n → gt ((cands m (path R m j)).map (R j)) ≠ none
  | 0, _ => h0
  | j + 1, hj => by
    have ih := good_path n hR h0 j (by omega)
    cases eg : gt ((cands m (path R m j)).map (R j)) with
    | none => exact absurd eg ih
    | some M =>
      obtain ⟨g, rest, egd, gm, gR, _⟩ := good_head R eg
      have e2 : cands m (path R m (j + 1)) = near m g := by
        rw [show path R m (j + 1) = path R m j ++ [(good R j (cands m (path R m j))).headD 0] from rfl, egd]
        unfold cands
        rw [List.getLast?_concat]
        rfl
      rw [e2]
      have hRj : R j g = best w ok m ((n - j - 2) + 2) j g := (hR j g).trans (congrArg (fun k => best w ok m k j g) (by omega))
      have hRj1 : R (j + 1) = best w ok m ((n - j - 2) + 1) (j + 1) := funext fun e => (hR (j + 1) e).trans (congrArg (fun k => best w ok m k (j + 1) e) (by omega))
      rw [hRj1]
      rw [hRj, best_succ] at gR
      intro z
      rw [z] at gR
      cases gR
end
end Pv.K20

/-! # M10 -/
set_option Elab.async false
set_option linter.all false
set_option maxHeartbeats 2000000
set_option maxRecDepth 10000
namespace Pv.K20
open PySem Pv
/-! the greatest among the whole ways -/
theorem okl_iff (ok : Nat → Int → Bool) : ∀ (c : Nat) (p : List Int), okl ok c p ↔ ∀ i d, p[i]? = some d → ok (c + i) d = true
  | c, [] => by simp [okl]
  | c, e :: p => by
    rw [okl, okl_iff ok (c + 1) p]
    constructor
    · rintro ⟨h1, h2⟩ i d h
      cases i with
      | zero => simp at h; subst h; exact h1
      | succ i => have := h2 i d (by simpa using h); rwa [show c + 1 + i = c + (i + 1) by omega] at this
    · intro h
      refine ⟨h 0 e (by simp), fun i d hd => ?_⟩
      have := h (i + 1) d (by simpa using hd)
      rwa [show c + (i + 1) = c + 1 + i by omega] at this
theorem okA_okl (c : Nat) (p : List Int) : okl okA c p := (okl_iff okA c p).mpr fun _ _ _ => rfl
theorem okP_okl {c0 : Nat} {d0 : Int} {p : List Int} (h : c0 < p.length) : okl (okP c0 d0) 0 p ↔ p.getD c0 0 = d0 := by
  rw [okl_iff]
  have e : p.getD c0 0 = p[c0] := by simp [h]
  rw [e]
  constructor
  · intro hh
    have := hh c0 p[c0] (List.getElem?_eq_getElem h)
    simpa [okP] using this
  · intro hd i d hi
    unfold okP
    by_cases hc : i = c0
    · subst hc
      rw [List.getElem?_eq_getElem h] at hi
      cases hi
      simp [hd]
    · simp [hc]
theorem ch_bnd {m : Nat} : ∀ {p : List Int}, Ch m p → ∀ d ∈ p, 0 ≤ d ∧ d ≤ m
  | [], _, d, h => nomatch h
  | [e], c, d, h => by
    simp at h
    subst h
    exact c
  | e :: f :: p, c, d, h => by
    obtain ⟨c1, c2, c3⟩ := c
    rcases List.mem_cons.mp h with rfl | h
    · exact c1
    · exact ch_bnd c3 d h
theorem ch_const {m : Nat} {d : Int} (h : 0 ≤ d ∧ d ≤ m) : ∀ n, Ch m (List.replicate n d)
  | 0 => trivial
  | 1 => h
  | n + 2 => ⟨h, by omega, ch_const h (n + 1)⟩
/-- v is the greatest worth among those of S -/
def Mx (S : List Int → Prop) (w : Nat → Int → Int) (v : Int) : Prop := (∃ p, S p ∧ val w 0 p = v) ∧ ∀ p, S p → val w 0 p ≤ v
theorem Mx.uniq {S : List Int → Prop} {w : Nat → Int → Int} {u v : Int} (h : Mx S w u) (h2 : Mx S w v) : u = v := by
  obtain ⟨⟨p, hp, e⟩, a⟩ := h
  obtain ⟨⟨q, hq, f⟩, b⟩ := h2
  have := a q hq
  have := b p hp
  omega
def Thr (m n : Nat) (ok : Nat → Int → Bool) (p : List Int) : Prop := p ∈ profs m n ∧ okl ok 0 p
theorem vd_thr {m n : Nat} {ok : Nat → Int → Bool} {p : List Int} {d : Int} (h : Vd ok m n 0 d p) : Thr m n ok p := ⟨(mem_profs m n p).mpr ⟨h.len, h.ch⟩, h.ok⟩
theorem thr_vd {m n : Nat} {ok : Nat → Int → Bool} {p : List Int} (hn : 1 ≤ n) (h : Thr m n ok p) : ∃ d ∈ depths m, Vd ok m n 0 d p := by
  obtain ⟨l, c⟩ := (mem_profs m n p).mp h.1
  cases p with
  | nil => simp at l; omega
  | cons d p => exact ⟨d, mem_depths.mpr (ch_bnd c d List.mem_cons_self), l, rfl, c, h.2⟩
theorem top_max {w : Nat → Int → Int} {ok : Nat → Int → Bool} {m n : Nat} {M : Int} (hn : 1 ≤ n) (h : gt ((depths m).map (best w ok m n 0)) = some M) : Mx (Thr m n ok) w M := by
  obtain ⟨k, rfl⟩ : ∃ k, n = k + 1 := ⟨n - 1, by omega⟩
  obtain ⟨g1, g2⟩ := gt_some h
  obtain ⟨d, hd, e⟩ := List.mem_map.mp g1
  have sp := fun d (hd : d ∈ depths m) => best_spec (w := w) (ok := ok) (m := m) k 0 d (mem_depths.mp hd)
  obtain ⟨p, hp, hv⟩ := ((sp d hd).2 M e).1
  refine ⟨⟨p, vd_thr hp, hv⟩, fun q hq => ?_⟩
  obtain ⟨f, hf, vq⟩ := thr_vd hn hq
  cases eb : best w ok m (k + 1) 0 f with
  | none => exact absurd vq ((sp f hf).1 eb q)
  | some v =>
    have h1 := ((sp f hf).2 v eb).2 q vq
    have h2 := g2 v (List.mem_map.mpr ⟨f, hf, eb⟩)
    omega
theorem top_ex {w : Nat → Int → Int} {ok : Nat → Int → Bool} {m n : Nat} {p : List Int} {d : Int} (hn : 1 ≤ n) (hd : d ∈ depths m) (h : Vd ok m n 0 d p) : ∃ v, best w ok m n 0 d = some v := by
  obtain ⟨k, rfl⟩ : ∃ k, n = k + 1 := ⟨n - 1, by omega⟩
  cases e : best w ok m (k + 1) 0 d with
  | none => exact absurd h ((best_spec (w := w) k 0 d (mem_depths.mp hd)).1 e p)
  | some v => exact ⟨v, rfl⟩
theorem rowR0 (rows : List (List Int)) (ok : Nat → Int → Bool) (n : Nat) : rowR (Bst rows ok n) rows.length 0 = (depths rows.length).map (best (W rows) ok rows.length n 0) := by
  unfold rowR depths
  rw [List.map_map]
  rfl
theorem const_thr {m n : Nat} {d : Int} (hd : 0 ≤ d ∧ d ≤ m) (hn : 1 ≤ n) (ok : Nat → Int → Bool) (ho : okl ok 0 (List.replicate n d)) : Vd ok m n 0 d (List.replicate n d) := by
  obtain ⟨k, rfl⟩ : ∃ k, n = k + 1 := ⟨n - 1, by omega⟩
  exact ⟨by simp, by simp [List.replicate_succ], ch_const hd _, ho⟩
theorem all_row (rows : List (List Int)) (n : Nat) (hn : 1 ≤ n) : ∃ x r, rowR (Bst rows okA n) rows.length 0 = (x :: r).map some ∧ Mx (Thr rows.length n okA) (W rows) (r.foldl max x) := by
  have hs : ∀ d ∈ depths rows.length, ∃ v, best (W rows) okA rows.length n 0 d = some v := fun d hd => top_ex hn hd (const_thr (mem_depths.mp hd) hn okA (okA_okl _ _))
  have key : ∀ ds : List Int, (∀ d ∈ ds, ∃ v, best (W rows) okA rows.length n 0 d = some v) → ∃ vs : List Int, ds.map (best (W rows) okA rows.length n 0) = vs.map some ∧ vs.length = ds.length := by
    intro ds
    induction ds with
    | nil => exact fun _ => ⟨[], rfl, rfl⟩
    | cons d ds ih =>
      intro h
      obtain ⟨v, hv⟩ := h d List.mem_cons_self
      obtain ⟨vs, e, l⟩ := ih fun d hd => h d (List.mem_cons_of_mem _ hd)
      exact ⟨v :: vs, by simp [hv, e], by simp [l]⟩
  obtain ⟨vs, e, l⟩ := key _ hs
  cases vs with
  | nil => simp [depths] at l
  | cons x r =>
    refine ⟨x, r, by rw [rowR0, e], top_max hn ?_⟩
    rw [e]
    unfold gt
    have : ((x :: r).map some).filterMap id = x :: r := by simp
    rw [this]
theorem at_row (rows : List (List Int)) (n c0 : Nat) (hc : c0 < n) (d0 : Int) (hd : 0 ≤ d0 ∧ d0 ≤ rows.length) : ∃ v, gt (rowR (Bst rows (okP c0 d0) n) rows.length 0) = some v ∧ Mx (Thr rows.length n (okP c0 d0)) (W rows) v := by
  have hn : 1 ≤ n := by omega
  have ho : okl (okP c0 d0) 0 (List.replicate n d0) := (okP_okl (by simpa using hc)).mpr (by simp [hc])
  obtain ⟨v, hv⟩ := top_ex (w := W rows) hn (mem_depths.mpr hd) (const_thr hd hn _ ho)
  obtain ⟨g, hg⟩ := gt_ex (List.mem_map.mpr ⟨d0, mem_depths.mpr hd, hv⟩)
  exact ⟨g, by rw [rowR0]; exact hg, top_max hn hg⟩
theorem at_path (rows : List (List Int)) (n c0 : Nat) (hc : c0 < n) (d0 : Int) {v : Int} (hv : gt (rowR (Bst rows (okP c0 d0) n) rows.length 0) = some v) :
    (∀ j < n, good (Bst rows (okP c0 d0) n) j (cands rows.length (path (Bst rows (okP c0 d0) n) rows.length j)) ≠ []) ∧
    Thr rows.length n (okP c0 d0) (path (Bst rows (okP c0 d0) n) rows.length n) ∧ val (W rows) 0 (path (Bst rows (okP c0 d0) n) rows.length n) = v ∧
    ∀ p, Thr rows.length n (okP c0 d0) p → val (W rows) 0 p = v → ¬ p < path (Bst rows (okP c0 d0) n) rows.length n := by
  have hn : 1 ≤ n := by omega
  have h0 : gt ((depths rows.length).map (Bst rows (okP c0 d0) n 0)) = some v := by rw [rowR0] at hv; exact hv
  have hR : ∀ c e, Bst rows (okP c0 d0) n c e = best (W rows) (okP c0 d0) rows.length (n - c) c e := fun _ _ => rfl
  refine ⟨fun j hj z => ?_, ?_⟩
  · have hg := good_path (Bst rows (okP c0 d0) n) n hR (by rw [h0]; exact fun z => nomatch z) j hj
    cases eg : gt ((cands rows.length (path (Bst rows (okP c0 d0) n) rows.length j)).map (Bst rows (okP c0 d0) n j)) with
    | none => exact hg eg
    | some M =>
      obtain ⟨g, rest, e, _⟩ := good_head _ eg
      rw [z] at e
      cases e
  · obtain ⟨k, hk⟩ : ∃ k, n = k + 1 := ⟨n - 1, by omega⟩
    have ep : path (Bst rows (okP c0 d0) n) rows.length n = gr (Bst rows (okP c0 d0) n) rows.length n 0 (depths rows.length) := by
      have := path_gr (Bst rows (okP c0 d0) n) (m := rows.length) n 0
      rw [Nat.zero_add] at this
      rw [this]
      rfl
    obtain ⟨g, gm, gv, gval, gmin⟩ := gr_opt (Bst rows (okP c0 d0) n) n hR k 0 (depths rows.length) v (by omega) (fun e he => mem_depths.mp he) (depths_sorted _) h0
    rw [ep]
    rw [← hk] at gv gval gmin
    refine ⟨vd_thr gv, gval, fun p hp hv => ?_⟩
    obtain ⟨d, hd, vp⟩ := thr_vd hn hp
    exact gmin d hd p vp hv
end Pv.K20

/-! # M11 -/
set_option Elab.async false
set_option linter.all false
set_option maxHeartbeats 2000000
set_option maxRecDepth 10000
namespace Pv.K20
open PySem Pv
/-! the least of pairs -/
def prD (x : Int × List Int) : D := .tup [.int x.1, pD x.2]
def prL (x : Int × List Int) : List Int := x.1 :: x.2
@[simp] theorem prD_of {x : Int × List Int} : (prD x).of = true := by simp [prD]
@[simp] theorem prD_fz {x : Int × List Int} : (prD x).fz = prD x := by simp [prD]
@[simp] theorem prD_pl {x : Int × List Int} : (prD x).pl = true := by simp [prD, pD]
theorem prD_py (x : Int × List Int) : (prD x).py = .tuple [.int x.1, .tuple (x.2.map fun i => .int i)] := by simp [prD, pD]
theorem ofPys_ints (l : List Int) : ofPys (l.map fun i => PyData.int i) = l.map .int := by
  induction l with
  | nil => simp [ofPys]
  | cons x l ih => simp [ofPys, ofPy, ih]
theorem prD_back (x : Int × List Int) : ofPy (prD x).py = prD x := ofPy_py _ prD_pl
theorem pr_lt (x y : Int × List Int) : W.dataLt (prD x).py (prD y).py = decide (prL x < prL y) := by
  rw [prD_py, prD_py, W.dataLt_pair (by simp) (by simp [alikeAll_ints])]
  simp only [eqv_int, eqv_tuple, eqvAll_ints, W.dataLt_int]
  have hr : W.dataLt (.tuple (x.2.map fun i => .int i)) (.tuple (y.2.map fun i => .int i)) = decide (x.2 < y.2) := by
    rw [W.dataLt_tuple]
    exact W.dataLt_ints x.2 y.2
  rw [hr]
  unfold prL
  by_cases h1 : x.1 = y.1
  · by_cases h2 : x.2 = y.2
    · simp [h1, h2, List.lt_irrefl]
    · simp [h1, h2, List.cons_lt_cons_iff]
  · have : ¬ (x.1 == y.1) = true := by simpa using h1
    rw [if_neg this]
    simp [List.cons_lt_cons_iff, h1]
def minP (x : Int × List Int) (xs : List (Int × List Int)) : Int × List Int := xs.foldl (fun a y => if prL y < prL a then y else a) x
theorem minP_spec : ∀ (xs : List (Int × List Int)) (x : Int × List Int), (minP x xs = x ∨ minP x xs ∈ xs) ∧ ¬ prL x < prL (minP x xs) ∧ ∀ y ∈ xs, ¬ prL y < prL (minP x xs)
  | [], x => ⟨.inl rfl, List.lt_irrefl _, fun y h => nomatch h⟩
  | z :: xs, x => by
    have e : minP x (z :: xs) = minP (if prL z < prL x then z else x) xs := rfl
    rw [e]
    by_cases h : prL z < prL x
    · rw [if_pos h]
      obtain ⟨h1, h2, h3⟩ := minP_spec xs z
      refine ⟨.inr ?_, fun hx => h2 (List.lt_trans h hx), fun y hy => ?_⟩
      · rcases h1 with h1 | h1
        · rw [h1]; exact List.mem_cons_self
        · exact List.mem_cons_of_mem _ h1
      · rcases List.mem_cons.mp hy with rfl | hy
        · exact h2
        · exact h3 y hy
    · rw [if_neg h]
      obtain ⟨h1, h2, h3⟩ := minP_spec xs x
      refine ⟨h1.imp id (List.mem_cons_of_mem _), h2, fun y hy => ?_⟩
      rcases List.mem_cons.mp hy with rfl | hy
      · intro hz
        -- z not below x, x not below min
        have h4 : prL x ≤ prL y := h
        have h5 : prL (minP x xs) ≤ prL x := h2
        exact (List.le_trans h5 h4) hz
      · exact h3 y hy
theorem min_fold (xs : List (Int × List Int)) (x : Int × List Int) : W.minD (prD x).py (xs.map fun y => (prD y).py) = (prD (minP x xs)).py := by
  unfold W.minD minP
  induction xs generalizing x with
  | nil => rfl
  | cons z xs ih =>
    simp only [List.map_cons, List.foldl_cons]
    rw [pr_lt]
    by_cases h : prL z < prL x
    · simp only [h, decide_true, if_true]
      exact ih z
    · simp only [h, decide_false, if_false, Bool.false_eq_true]
      exact ih x
theorem ext_min {st : Ms} (x : Int × List Int) (xs : List (Int × List Int)) : extD W.minD st [.own ((x :: xs).map prD)] = some (prD (minP x xs)) := by
  have h : D.pls ((x :: xs).map prD) = true ∧ alikeB (D.pys ((x :: xs).map prD)) = true ∧ PyData.depthAll (D.pys ((x :: xs).map prD)) ≤ 60 := by
    refine ⟨by simp, ?_, ?_⟩
    · rw [pys_map]
      refine alikeB_map (fun a _ b _ => ?_) (fun a _ => ?_)
      · rw [prD_py, prD_py]
        simp [alikeAll_ints]
      · rw [prD_py]
        exact fun z => nomatch z
    · rw [pys_map]
      refine Nat.le_trans (depAll_map (k := 2) fun a _ => ?_) (by decide)
      rw [prD_py]
      simp
  show (D.li (.own ((x :: xs).map prD))).bind _ = _
  rw [li_own, if_pos (by simp)]
  show (if _ then some (ofPy (W.minD (D.py (prD x)) (D.pys (xs.map prD)))) else none) = _
  rw [List.map_cons] at h
  rw [if_pos h, pys_map, min_fold, prD_back]
end Pv.K20

/-! # M12 -/
set_option Elab.async false
set_option linter.all false
set_option maxHeartbeats 4000000
set_option maxRecDepth 10000
namespace Pv.K20
open PySem Pv
theorem e_repr {rows : List (List Int)} {n : Nat} (h : Sh rows n) : ∃ s, ∀ st, reprD st [secD rows] = some (.str s) := by
  refine ⟨(secD rows).py.shown, fun st => ?_⟩
  have e : (secD rows).py = .tuple [.str "section", .tuple (rows.map fun r => .tuple (r.map fun i => .int i))] := by simp [secD, bD]
  have hb : ∀ r ∈ rows, ∀ x ∈ r, -1000 ≤ x ∧ x ≤ 1000 := fun r hr x hx => by
    have := (h.row r hr).bnd x hx
    omega
  have h1 : isRefD (secD rows) = true ∧ (secD rows).nc = true ∧ (secD rows).py.showable = true ∧ (secD rows).py.depth ≤ 60 ∧ (secD rows).py.shown.length ≤ BIG := by
    refine ⟨rfl, by simp [secD], ?_, ?_, ?_⟩
    · rw [e]
      simp only [show_tuple, showAll_eq, List.all_cons, List.all_nil, show_str, List.all_map, Bool.true_and, Bool.and_true, List.all_eq_true]
      intro r hr
      simp only [Function.comp_apply, show_tuple, showAll_eq, List.all_map, List.all_eq_true]
      intro x hx
      exact int_shows (hb r hr x hx).1 (hb r hr x hx).2
    · rw [e]
      have : PyData.depthAll (rows.map fun r => PyData.tuple (r.map fun i => .int i)) ≤ 1 := depAll_map fun r _ => by simp
      simp
      omega
    · rw [e]
      have h2 : ∀ r ∈ rows, (PyData.shown (.tuple (r.map fun i => .int i))).length ≤ 32 := fun r hr => by
        refine Nat.le_trans (shown_tup_le (b := 5) fun x hx => int_short (hb r hr x hx).1 (hb r hr x hx).2) ?_
        have := (h.row r hr).len
        have := h.n2
        omega
      have h3 : (PyData.shown (.tuple (rows.map fun r => .tuple (r.map fun i => .int i)))).length ≤ 200 := by
        refine Nat.le_trans (shown_tup_le (b := 32) h2) ?_
        have := h.m2
        omega
      have h4 : (PyData.shown (.str "section")).length ≤ 200 := by rw [shown_str]; decide +kernel
      have := shown_tup_le (xs := [PyData.str "section", .tuple (rows.map fun r => .tuple (r.map fun i => .int i))]) (f := id) (b := 200) (by
        intro x hx
        simp at hx
        rcases hx with rfl | rfl
        · exact h4
        · exact h3)
      simp only [List.map_id_fun, id_eq, List.length_cons, List.length_nil] at this
      exact Nat.le_trans this (by decide)
  exact if_pos h1
@[simp] theorem mulD_li {st : Ms} {l : List D} {k : Int} : mulD st (.lst l) (.int k) = if -(2 ^ 63) ≤ k ∧ k < 2 ^ 63 ∧ l.length * k.toNat ≤ BIG then some (.own (List.replicate k.toNat l).flatten) else none := rfl
/-- the greatest worth through a place -/
def Mc (rows : List (List Int)) (n c : Nat) (d : Int) : Int := (gt (rowR (Bst rows (okP c d) n) rows.length 0)).getD 0
theorem mc_at {rows : List (List Int)} {n c : Nat} (hc : c < n) {d : Int} (hd : 0 ≤ d ∧ d ≤ rows.length) : gt (rowR (Bst rows (okP c d) n) rows.length 0) = some (Mc rows n c d) ∧ Mx (Thr rows.length n (okP c d)) (W rows) (Mc rows n c d) := by
  obtain ⟨v, e, h⟩ := at_row rows n c hc d hd
  have : Mc rows n c d = v := by unfold Mc; rw [e]; rfl
  rw [this]
  exact ⟨e, h⟩
theorem thr_iff {m n c : Nat} (hc : c < n) {d : Int} {p : List Int} : Thr m n (okP c d) p ↔ p ∈ profs m n ∧ p.getD c 0 = d := by
  unfold Thr
  constructor
  · rintro ⟨h1, h2⟩
    exact ⟨h1, (okP_okl (by rw [((mem_profs m n p).mp h1).1]; exact hc)).mp h2⟩
  · rintro ⟨h1, h2⟩
    exact ⟨h1, (okP_okl (by rw [((mem_profs m n p).mp h1).1]; exact hc)).mpr h2⟩
def vP (rows : List (List Int)) (p : List Int) : Int × List Int := (0 - val (W rows) 0 p, p)
/-- the least pair is the greedy way -/
theorem least_is {rows : List (List Int)} {n c : Nat} (hc : c < n) {d : Int} (hd : 0 ≤ d ∧ d ≤ rows.length) {p0 : List Int} {ps : List (List Int)} (e : (profs rows.length n).filter (fun p => decide (p.getD c 0 = d)) = p0 :: ps) :
    minP (vP rows p0) (ps.map (vP rows)) = (0 - Mc rows n c d, path (Bst rows (okP c d) n) rows.length n) := by
  obtain ⟨hv, hm⟩ := mc_at hc hd
  obtain ⟨_, t, tv, tm⟩ := at_path rows n c hc d hv
  obtain ⟨z1, z2, z3⟩ := minP_spec (ps.map (vP rows)) (vP rows p0)
  generalize minP (vP rows p0) (ps.map (vP rows)) = z at z1 z2 z3 ⊢
  have inS : ∀ p, p ∈ p0 :: ps ↔ Thr rows.length n (okP c d) p := fun p => by
    rw [← e, List.mem_filter, thr_iff hc, decide_eq_true_eq]
  obtain ⟨q, hq, rfl⟩ : ∃ q ∈ p0 :: ps, z = vP rows q := by
    rcases z1 with rfl | z1
    · exact ⟨p0, List.mem_cons_self, rfl⟩
    · obtain ⟨q, hq, rfl⟩ := List.mem_map.mp z1
      exact ⟨q, List.mem_cons_of_mem _ hq, rfl⟩
  have low : ∀ p ∈ p0 :: ps, ¬ prL (vP rows p) < prL (vP rows q) := fun p hp => by
    rcases List.mem_cons.mp hp with rfl | hp
    · exact z2
    · exact z3 _ (List.mem_map.mpr ⟨p, hp, rfl⟩)
  have tq := (inS q).mp hq
  have l1 := low _ ((inS _).mpr t)
  have hqM := hm.2 q tq
  have hval : val (W rows) 0 q = Mc rows n c d := by
    have : ¬ (0 - val (W rows) 0 (path (Bst rows (okP c d) n) rows.length n) < 0 - val (W rows) 0 q) := fun z => l1 (by
      unfold prL vP
      rw [List.cons_lt_cons_iff]
      exact .inl z)
    omega
  have l2 := tm q tq hval
  have l3 : ¬ path (Bst rows (okP c d) n) rows.length n < q := fun z => l1 (by
    unfold prL vP
    rw [List.cons_lt_cons_iff]
    exact .inr ⟨by simp only; omega, z⟩)
  have : q = path (Bst rows (okP c d) n) rows.length n := List.le_antisymm l3 l2
  unfold vP
  rw [hval, ← this]
theorem some_ne {m n c : Nat} (hc : c < n) {d : Int} (hd : 0 ≤ d ∧ d ≤ m) : ∃ p0 ps, (profs m n).filter (fun p => decide (p.getD c 0 = d)) = p0 :: ps := by
  have : List.replicate n d ∈ (profs m n).filter (fun p => decide (p.getD c 0 = d)) := by
    refine List.mem_filter.mpr ⟨(mem_profs m n _).mpr ⟨by simp, ch_const hd n⟩, ?_⟩
    simp [hc]
  cases e : (profs m n).filter (fun p => decide (p.getD c 0 = d)) with
  | nil => rw [e] at this; cases this
  | cons p ps => exact ⟨p, ps, rfl⟩
end Pv.K20

/-! # M13 -/
set_option Elab.async false
set_option linter.all false
set_option maxHeartbeats 4000000
set_option maxRecDepth 10000
namespace Pv.K20
open PySem Pv
theorem ext_vals {α : Type} {xs : List α} (f : α → Int) (hne : xs ≠ []) : ∃ M, (∀ st, extD W.maxD st [.own (xs.map fun p => .int (f p))] = some (.int M)) ∧ (∃ x ∈ xs, f x = M) ∧ ∀ x ∈ xs, f x ≤ M := by
  cases xs with
  | nil => exact absurd rfl hne
  | cons x r =>
    obtain ⟨h1, h2, h3⟩ := foldl_max (r.map f) (f x)
    refine ⟨(r.map f).foldl max (f x), fun st => ?_, ?_, fun y hy => ?_⟩
    · have := ext_max (st := st) (x := f x) (r := r.map f)
      rw [← List.map_cons (f := f), List.map_map] at this
      exact this
    · rcases h1 with h1 | h1
      · exact ⟨x, List.mem_cons_self, h1.symm⟩
      · obtain ⟨y, hy, e⟩ := List.mem_map.mp h1
        exact ⟨y, List.mem_cons_of_mem _ hy, e⟩
    · rcases List.mem_cons.mp hy with rfl | hy
      · exact h2
      · exact h3 _ (List.mem_map.mpr ⟨y, hy, rfl⟩)
theorem same_eq : ∀ n, m__law_same_n n = m_same_n n
  | 0 => rfl
  | n + 1 => by
    show mkFn 4 2 (F__law_same (m__law_same_n n)) = mkFn 4 2 (F_same (m_same_n n))
    rw [same_eq n]
    rfl
theorem e_same (d : D) (st : Ms) (h : D.ok 7 d = true) : m__law_same [d, d] st = some (.bl true, st) := by
  show m__law_same_n 8 [d, d] st = _
  rw [same_eq]
  exact same_refl 7 d st h
theorem w_right {st : Ms} (h : PotOk st) : Wp (m__law_right [.cell 0] st) fun x => x.1 = .bl true ∧ PotOk x.2 := by
  refine wp_mkFn (by rfl) ?_
  simp [F__law_right]
  refine (w_section h).mono fun x ⟨rows, n, e, sh, p⟩ => ?_
  obtain ⟨d, st1⟩ := x
  dsimp only at e p ⊢
  subst e
  obtain ⟨s, hs⟩ := e_repr sh
  obtain ⟨r0, e0, l0⟩ := sh.r0
  have hn := sh.n1
  have hn4 := sh.n2
  have hm3 := sh.m2
  have hpl : (profs rows.length n).length ≤ 256 := Nat.le_trans (profs_len hm3 n) (Nat.le_trans (Nat.pow_le_pow_right (by decide) hn4) (by decide))
  have hmem := mem_profs rows.length n
  have hwor : ∀ p ∈ profs rows.length n, ∀ st, m__law_worth [secD rows, pD p] st = some (.int (val (W rows) 0 p), st) := fun p hp st => e_worth st sh p ((hmem p).mp hp).1 (ch_bnd ((hmem p).mp hp).2)
  have hl2 : st1.length = st.length := by rw [h.len, p.len]
  simp [hs, e_profiles st1 sh]
  refine wp_val (.own ((profs rows.length n).map fun p => .int (val (W rows) 0 p))) ?_ ?_
  · rw [← wp_eq]
    simp [wp_fComp, okAt, wipeE, restE]
    refine wp_each (α := List Int) (profs rows.length n) pD (fun p => .int (val (W rows) 0 p)) (fun q hq => ?_) ?_
    · simp [hwor q hq, wipeE]
    · simp
      omega
  · have hne : profs rows.length n ≠ [] := by
      obtain ⟨p0, ps, e⟩ := some_ne (m := rows.length) (n := n) (c := 0) (by omega) (d := 0) (by omega)
      intro z
      rw [z] at e
      cases e
    obtain ⟨M, hM, hMx⟩ := ext_vals (val (W rows) 0) hne
    obtain ⟨x, r, hr, hall⟩ := all_row rows n hn
    have hxr : r.foldl max x = M := hall.uniq (v := M) ⟨by
      obtain ⟨p, hp, e⟩ := hMx.1
      exact ⟨p, ⟨hp, okA_okl _ _⟩, e⟩, fun p hp => hMx.2 p hp.1⟩
    simp only [List.length_cons, List.length_nil]
    simp
    refine wp_step (hM st1) ?_
    simp [secD, e0, bD, l0, wp_sFor, okR]
    refine ⟨by omega, ?_⟩
    rw [steps_eq]
    refine wp_for (α := Nat) (List.range n) _ (fun (pre : List Nat) (env : Env) (st' : Ms) => st1 = st' ∧ ∃ x6 x7 x8 x9 x10 x11 x12 x13 : Option D, env = [some (.cell 0), some (secD rows), some (.str s), some (.lst ((profs rows.length n).map pD)), some (.int M), some (.int n), x6, x7, x8, x9, x10, x11, x12, x13, none]) ⟨rfl, none, none, none, none, none, none, none, none, rfl⟩ ?_ ?_
    · rintro pre c post env st' e ⟨rfl, x6, x7, x8, x9, x10, x11, x12, x13, rfl⟩
      obtain ⟨_, hc⟩ := range_split e
      simp [wp_sFor, secD, okR]
      refine ⟨by omega, ?_⟩
      rw [steps_eq]
      refine wp_for (α := Nat) (List.range (rows.length + 1)) _ (fun (pre : List Nat) (env : Env) (st' : Ms) => st1 = st' ∧ ∃ x8 x9 x10 x11 x12 x13 : Option D, env = [some (.cell 0), some (secD rows), some (.str s), some (.lst ((profs rows.length n).map pD)), some (.int M), some (.int n), some (.int c), some (.own (pre.map fun (i : Nat) => .int (Mc rows n c i))), x8, x9, x10, x11, x12, x13, none]) ⟨rfl, x8, x9, x10, x11, x12, x13, rfl⟩ ?_ ?_
      · rintro pre i post env st' e ⟨rfl, x8, x9, x10, x11, x12, x13, rfl⟩
        obtain ⟨ei, hi⟩ := range_split e
        have hd : (0 : Int) ≤ (i : Int) ∧ (i : Int) ≤ rows.length := by omega
        obtain ⟨p0, ps, eS⟩ := some_ne (m := rows.length) hc hd
        have hleast := least_is hc hd eS
        obtain ⟨hv, hmc⟩ := mc_at (n := n) hc hd
        obtain ⟨hg, ht, htv, _⟩ := at_path rows n c hc i hv
        have hSl : (p0 :: ps).length ≤ 256 := by rw [← eS]; exact Nat.le_trans (List.length_filter_le _ _) hpl
        have hsecfold : (D.tup [D.str (Str.ofString "section"), D.tup (rows.map bD)]) = secD rows := rfl
        rw [gN_ev, if_pos (by simp), wp_some, wp_sSeq, wp_sAsg]
        simp only [List.set_cons_succ, List.set_cons_zero]
        have hmin : extD W.minD st1 [.own ((p0 :: ps).map fun p => prD (vP rows p))] = some (prD (0 - Mc rows n c i, path (Bst rows (okP c i) n) rows.length n)) := by
          rw [← hleast, ← ext_min, ← List.map_cons (f := vP rows), List.map_map]
          rfl
        refine wp_val (.own ((p0 :: ps).map fun p => prD (vP rows p))) ?_ ?_
        · rw [← wp_eq]
          simp [wp_fComp, okAt, wipeE, restE]
          refine wp_map (α := List Int) (profs rows.length n) pD (fun p => decide (p.getD c 0 = (i : Int))) (fun p => prD (vP rows p)) (fun q hq => ?_) ?_
          · have hql := ((hmem q).mp hq).1
            have hcq : c < q.length := by omega
            have ea : L2.atI (q.map D.int) (c : Int) = some (.int q[c]) := by rw [atI_nat]; simp [hcq]
            simp [show pD q = .tup (q.map .int) from rfl, ea, hcq]
            by_cases hqi : q[c] = (i : Int)
            · simp [hqi, hwor q hq, show D.tup (q.map .int) = pD q from rfl, prD, vP, wipeE]
            · simp [hqi, wipeE]
          · rw [eS]
            simp only [List.length_map]
            exact ⟨by omega, rfl, rfl, trivial⟩
        · generalize eP : (p0 :: ps).map (fun p => prD (vP rows p)) = P at hmin ⊢
          have hofs : D.ofs P = true := by rw [← eP]; simp
          have f1 := e_worth_through st1 sh c hc i hd.1 hd.2
          have f2 := e_profile_through st1 sh c hc i hd.1 hd.2 hg
          have f3 := e_loss st1 sh c hc i hd.1 hd.2 hr hv
          rw [hv, oD_int] at f1
          rw [hxr] at f3
          simp only [List.set_cons_succ, List.set_cons_zero]
          refine ⟨by simp, ?_⟩
          rw [aft_nx, wp_sSeq]
          generalize hK : Aft _ _ = K
          simp [hmin, prD]
          subst hK
          rw [aft_nx, wp_sSeq]
          generalize hK : Aft _ _ = K
          simp [f1, f2, f3, hsecfold]
          subst hK
          rw [aft_nx, wp_sSeq]
          generalize hK : Aft _ _ = K
          simp [f1, f2, f3, hsecfold, pmOf]
          subst hK
          rw [aft_nx, wp_sSeq]
          generalize hK : Aft _ _ = K
          simp [f1, f2, f3, hsecfold, pmOf]
          refine wp_step (e_same _ st1 ?_) ?_
          · have hpl2 := path_len (Bst rows (okP c i) n) rows.length n
            have hok : ∀ k, D.oks k ((path (Bst rows (okP c i) n) rows.length n).map fun x => D.int x) = true := fun k => oks_of fun d hd => by
              obtain ⟨z, _, rfl⟩ := List.mem_map.mp hd
              cases k <;> simp [D.ok]
            simp [D.ok, D.oks, hok, hpl2]
            omega
          · right
            refine ⟨rfl, ?_⟩
            subst hK
            rw [aft_nx, wp_sSeq]
            generalize hK : Aft _ _ = K
            simp
            have hpM : Mc rows n c i ≤ M := by
              obtain ⟨q, hq, e⟩ := hmc.1
              rw [← e]
              exact hMx.2 q hq.1
            have hany : ((profs rows.length n).filter (fun p => decide (val (W rows) 0 p = M))).any (fun p => decide (p.getD c 0 = (i : Int))) = decide (Mc rows n c i = M) := by
              rw [Bool.eq_iff_iff, List.any_eq_true, decide_eq_true_eq]
              constructor
              · rintro ⟨q, hq, hqi⟩
                obtain ⟨hq1, hq2⟩ := List.mem_filter.mp hq
                rw [decide_eq_true_eq] at hq2 hqi
                have := hmc.2 q ((thr_iff hc).mpr ⟨hq1, hqi⟩)
                omega
              · intro hM2
                obtain ⟨q, hq, e⟩ := hmc.1
                obtain ⟨hq1, hq2⟩ := (thr_iff hc).mp hq
                refine ⟨q, List.mem_filter.mpr ⟨hq1, ?_⟩, ?_⟩
                · rw [decide_eq_true_eq, e, hM2]
                · rw [decide_eq_true_eq, hq2]
            have hfl : ((profs rows.length n).filter (fun p => decide (val (W rows) 0 p = M))).length ≤ 256 := Nat.le_trans (List.length_filter_le _ _) hpl
            refine wp_val (.own (((profs rows.length n).filter (fun p => decide (val (W rows) 0 p = M))).map fun p => .bl (decide (p.getD c 0 = (i : Int))))) ?_ ?_
            · rw [← wp_eq]
              simp [wp_fComp, okAt, wipeE, restE]
              refine wp_map (α := List Int) (profs rows.length n) pD (fun p => decide (val (W rows) 0 p = M)) (fun p => .bl (decide (p.getD c 0 = (i : Int)))) (fun q hq => ?_) ?_
              · have hql := ((hmem q).mp hq).1
                have hcq : c < q.length := by omega
                have ea : L2.atI (q.map D.int) (c : Int) = some (.int q[c]) := by rw [atI_nat]; simp [hcq]
                simp [hwor q hq, hsecfold]
                by_cases hqM : val (W rows) 0 q = M
                · simp [hqM, show pD q = .tup (q.map .int) from rfl, ea, hcq, wipeE]
                · simp [hqM, wipeE]
              · simp only [List.length_map]
                exact ⟨by omega, rfl, rfl, trivial⟩
            · have hpreL : pre.length < 1000000 := by omega
              rw [anyD_map, hany]
              simp
              subst hK
              rw [aft_nx]
              simp [hpreL]
      · rintro env st' ⟨rfl, x8, x9, x10, x11, x12, x13, rfl⟩
        obtain ⟨M2, hM2, ⟨i, hi, ei⟩, hall2⟩ := ext_vals (xs := List.range (rows.length + 1)) (fun (i : Nat) => Mc rows n c (i : Int)) (by simp)
        have e2 : M2 = M := by
          have hi2 := List.mem_range.mp hi
          obtain ⟨_, hmi⟩ := mc_at (rows := rows) hc (d := (i : Int)) (by omega)
          obtain ⟨q, hq, e⟩ := hmi.1
          have h1 := hMx.2 q hq.1
          obtain ⟨p, hp, ep⟩ := hMx.1
          have hpb := ch_bnd ((hmem p).mp hp).2
          have hpl3 := ((hmem p).mp hp).1
          have hcp : c < p.length := by omega
          have hcb := hpb p[c] (List.getElem_mem hcp)
          obtain ⟨j, ej⟩ := Int.eq_ofNat_of_zero_le hcb.1
          obtain ⟨_, hmj⟩ := mc_at (rows := rows) hc (d := (j : Int)) (by omega)
          have h2 := hmj.2 p ((thr_iff hc).mpr ⟨hp, by rw [← ej]; simp [hcp]⟩)
          have h3 := hall2 j (List.mem_range.mpr (by omega))
          omega
        subst e2
        have hb := e_best_worth st1 sh hr
        rw [hxr] at hb
        have hsecfold : (D.tup [D.str (Str.ofString "section"), D.tup (rows.map bD)]) = secD rows := rfl
        rw [aft_nx]
        simp [hM2, hb, hsecfold]
    · rintro env st' ⟨rfl, x6, x7, x8, x9, x10, x11, x12, x13, rfl⟩
      simp [hs]
      exact ⟨hl2, p⟩
end Pv.K20

/-! # M14 -/
set_option Elab.async false
set_option linter.all false
set_option maxHeartbeats 4000000
set_option maxRecDepth 10000
namespace Pv.K20
open PySem Pv
theorem law_true (ns : List Int) (_ : ns.length ≤ 63) : ∃ st, m_law [.scr ns] [] = some (.bl true, st) := by
  suffices h : Wp (m_law [.scr ns] []) (fun x => x.1 = .bl true) by
    obtain ⟨⟨d, st⟩, e, h⟩ := h
    dsimp only at h
    subst h
    exact ⟨st, e⟩
  refine wp_mkFn2 (by rfl) ?_
  simp [F_law]
  refine w_pot.mono fun x ⟨a, b, e, ha, hb, hb2, e2⟩ => ?_
  obtain ⟨d, st⟩ := x
  dsimp only at e e2 ⊢
  subst e e2
  simp [wp_fComp, okAt, wipeE, restE, okR]
  rw [steps_eq]
  refine wp_draws (α := Nat) (List.range 5) _ PotOk (fun d => d = .bl true) ⟨a, b, rfl, ha, hb, hb2⟩ ?_ ?_
  · intro x hx st hst
    simp
    refine (w_right hst).mono fun y ⟨e, p⟩ => ?_
    exact ⟨e, p, by simp [wipeE]⟩
  · intro ds st hl hd hst
    have e : ds = (List.replicate ds.length true).map .bl := by
      rw [List.map_replicate]
      exact List.eq_replicate_iff.mpr ⟨rfl, hd⟩
    rw [e]
    simp only [List.length_range] at hl
    simp [hl]
    refine wp_step (allD_own (ns := [true, true, true, true, true])) ?_
    simp
end Pv.K20

/-! # the law -/
set_option maxRecDepth 100000
open PySem PySem.W PyProof.Rows
set_option maxHeartbeats 0 in
theorem PySem.Challenge.cw_payingpit_k20_whole_worths_through_place_holds : PySem.Challenge.rw_payingpit_k20_whole_worths_through_place.Holds := by
  w_on; o_law; k_head; (case hw => w_witness2)
  k_fill
  refine Pv.walk_G (l := PySem.Challenge.rw_payingpit_k20_whole_worths_through_place) (n := 63) (k := 10) (x := "script") (m := Pv.K20.m_law) rfl (by decide) rfl ⟨rfl, by decide, by decide⟩ (fun w h Y => PySem.W.kIn_of Y) ?F Pv.K20.law_true
  case F =>
    intro w mg fa h KX G hmg
    refine Pv.K20.all_ok hmg ?D__law_pot ?D__law_draw ?D__law_pick ?D__law_section ?D__law_profiles ?D_is_integer ?D_bench_is_right ?D_section_is_right ?D_check_section ?D_columns_of ?D_benches_of ?D_greatest_told ?D_depth_worth_by ?D_near_depths ?D_table_by ?D_best_by ?D_best_worth ?D__law_down ?D__law_worth ?D_is_count ?D_is_position ?D_check_column ?D_check_place ?D_through_by ?D_worth_through ?D_read_by ?D_profile_through ?D_loss ?D__law_same ?D__law_right ?D_law ?z_sum ?z_abs ?z_int ?z_len ?z_max ?z_range ?z_tuple ?z_isinstance ?z_bool ?z_all ?z_str ?z_enumerate ?z_list ?z_zip ?z_repr ?z_min ?z_any ?g_MOST_COLUMNS ?g_MOST_WORTH ?g_MOST_BENCHES
    case D__law_pot => (refine' Pv.df_mk KX G ?a ?l ?c ?k); (case a => k_is); (case l => k_is); (case c => k_is); (case k => k_is)
    case D__law_draw => (refine' Pv.df_mk KX G ?a ?l ?c ?k); (case a => k_is); (case l => k_is); (case c => k_is); (case k => k_is)
    case D__law_pick => (refine' Pv.df_mk KX G ?a ?l ?c ?k); (case a => k_is); (case l => k_is); (case c => k_is); (case k => k_is)
    case D__law_section => (refine' Pv.df_mk KX G ?a ?l ?c ?k); (case a => k_is); (case l => k_is); (case c => k_is); (case k => k_is)
    case D__law_profiles => (refine' Pv.df_mk KX G ?a ?l ?c ?k); (case a => k_is); (case l => k_is); (case c => k_is); (case k => k_is)
    case D_is_integer => (refine' Pv.df_mk KX G ?a ?l ?c ?k); (case a => k_is); (case l => k_is); (case c => k_is); (case k => k_is)
    case D_bench_is_right => (refine' Pv.df_mk KX G ?a ?l ?c ?k); (case a => k_is); (case l => k_is); (case c => k_is); (case k => k_is)
    case D_section_is_right => (refine' Pv.df_mk KX G ?a ?l ?c ?k); (case a => k_is); (case l => k_is); (case c => k_is); (case k => k_is)
    case D_check_section => (refine' Pv.df_mk KX G ?a ?l ?c ?k); (case a => k_is); (case l => k_is); (case c => k_is); (case k => k_is)
    case D_columns_of => (refine' Pv.df_mk KX G ?a ?l ?c ?k); (case a => k_is); (case l => k_is); (case c => k_is); (case k => k_is)
    case D_benches_of => (refine' Pv.df_mk KX G ?a ?l ?c ?k); (case a => k_is); (case l => k_is); (case c => k_is); (case k => k_is)
    case D_greatest_told => (refine' Pv.df_mk KX G ?a ?l ?c ?k); (case a => k_is); (case l => k_is); (case c => k_is); (case k => k_is)
    case D_depth_worth_by => (refine' Pv.df_mk KX G ?a ?l ?c ?k); (case a => k_is); (case l => k_is); (case c => k_is); (case k => k_is)
    case D_near_depths => (refine' Pv.df_mk KX G ?a ?l ?c ?k); (case a => k_is); (case l => k_is); (case c => k_is); (case k => k_is)
    case D_table_by => (refine' Pv.df_mk KX G ?a ?l ?c ?k); (case a => k_is); (case l => k_is); (case c => k_is); (case k => k_is)
    case D_best_by => (refine' Pv.df_mk KX G ?a ?l ?c ?k); (case a => k_is); (case l => k_is); (case c => k_is); (case k => k_is)
    case D_best_worth => (refine' Pv.df_mk KX G ?a ?l ?c ?k); (case a => k_is); (case l => k_is); (case c => k_is); (case k => k_is)
    case D__law_down => (refine' Pv.df_mk KX G ?a ?l ?c ?k); (case a => k_is); (case l => k_is); (case c => k_is); (case k => k_is)
    case D__law_worth => (refine' Pv.df_mk KX G ?a ?l ?c ?k); (case a => k_is); (case l => k_is); (case c => k_is); (case k => k_is)
    case D_is_count => (refine' Pv.df_mk KX G ?a ?l ?c ?k); (case a => k_is); (case l => k_is); (case c => k_is); (case k => k_is)
    case D_is_position => (refine' Pv.df_mk KX G ?a ?l ?c ?k); (case a => k_is); (case l => k_is); (case c => k_is); (case k => k_is)
    case D_check_column => (refine' Pv.df_mk KX G ?a ?l ?c ?k); (case a => k_is); (case l => k_is); (case c => k_is); (case k => k_is)
    case D_check_place => (refine' Pv.df_mk KX G ?a ?l ?c ?k); (case a => k_is); (case l => k_is); (case c => k_is); (case k => k_is)
    case D_through_by => (refine' Pv.df_mk KX G ?a ?l ?c ?k); (case a => k_is); (case l => k_is); (case c => k_is); (case k => k_is)
    case D_worth_through => (refine' Pv.df_mk KX G ?a ?l ?c ?k); (case a => k_is); (case l => k_is); (case c => k_is); (case k => k_is)
    case D_read_by => (refine' Pv.df_mk KX G ?a ?l ?c ?k); (case a => k_is); (case l => k_is); (case c => k_is); (case k => k_is)
    case D_profile_through => (refine' Pv.df_mk KX G ?a ?l ?c ?k); (case a => k_is); (case l => k_is); (case c => k_is); (case k => k_is)
    case D_loss => (refine' Pv.df_mk KX G ?a ?l ?c ?k); (case a => k_is); (case l => k_is); (case c => k_is); (case k => k_is)
    case D__law_same => (refine' Pv.df_mk KX G ?a ?l ?c ?k); (case a => k_is); (case l => k_is); (case c => k_is); (case k => k_is)
    case D__law_right => (refine' Pv.df_mk KX G ?a ?l ?c ?k); (case a => k_is); (case l => k_is); (case c => k_is); (case k => k_is)
    case D_law => (refine' Pv.df_mk KX G ?a ?l ?c ?k); (case a => k_is); (case l => k_is); (case c => k_is); (case k => k_is)
    case z_sum => (refine' PySem.W.mg_none_of KX G ?a); (case a => k_is)
    case z_abs => (refine' PySem.W.mg_none_of KX G ?a); (case a => k_is)
    case z_int => (refine' PySem.W.mg_none_of KX G ?a); (case a => k_is)
    case z_len => (refine' PySem.W.mg_none_of KX G ?a); (case a => k_is)
    case z_max => (refine' PySem.W.mg_none_of KX G ?a); (case a => k_is)
    case z_range => (refine' PySem.W.mg_none_of KX G ?a); (case a => k_is)
    case z_tuple => (refine' PySem.W.mg_none_of KX G ?a); (case a => k_is)
    case z_isinstance => (refine' PySem.W.mg_none_of KX G ?a); (case a => k_is)
    case z_bool => (refine' PySem.W.mg_none_of KX G ?a); (case a => k_is)
    case z_all => (refine' PySem.W.mg_none_of KX G ?a); (case a => k_is)
    case z_str => (refine' PySem.W.mg_none_of KX G ?a); (case a => k_is)
    case z_enumerate => (refine' PySem.W.mg_none_of KX G ?a); (case a => k_is)
    case z_list => (refine' PySem.W.mg_none_of KX G ?a); (case a => k_is)
    case z_zip => (refine' PySem.W.mg_none_of KX G ?a); (case a => k_is)
    case z_repr => (refine' PySem.W.mg_none_of KX G ?a); (case a => k_is)
    case z_min => (refine' PySem.W.mg_none_of KX G ?a); (case a => k_is)
    case z_any => (refine' PySem.W.mg_none_of KX G ?a); (case a => k_is)
    case g_MOST_COLUMNS => (refine' Pv.gi_mk KX G ?a ?e); (case a => k_is); (case e => exact ⟨_, rfl⟩)
    case g_MOST_WORTH => (refine' Pv.gi_mk KX G ?a ?e); (case a => k_is); (case e => exact ⟨_, rfl⟩)
    case g_MOST_BENCHES => (refine' Pv.gi_mk KX G ?a ?e); (case a => k_is); (case e => exact ⟨_, rfl⟩)
