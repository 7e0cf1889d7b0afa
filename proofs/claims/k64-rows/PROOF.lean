import PyProof.Rows.All
import Wide.All
import OpenK.AllK
import Wide.FinOn
import HandS.ForMost
import HandS.IsInst
import HandS.TupAny
import HandS.TupMul
import HandS.Zip
import HandS.Style
import HandS.Wide
import HandS.Conv
import KE.DataMinMax
import KE.GoesMore
import HandS.Ends
import KE.SortData
import HandS.SortInts
import HandS.Deep
import HandS.Flt
import HandS.TryOnly
import PyProof.Rows.RuleIs
import KE.GoesZip
import KE.GoesEnum
import PyProof.Rows.SumAny
import HandS.SetFor
import KE.LtData
import PySem.Challenge.RW_payingpit_k64_whole_least_and_greatest_r
/-! # PvA -/
set_option Elab.async false
set_option linter.all false
/-! values as plain data, what a heap bears of them, who may still change what -/
namespace Pv
open PySem L2

inductive D where
  | non | bl (b : Bool) | int (i : Int) | str (s : Str)
  | tup (l : List D) | lst (l : List D) | own (l : List D) | cell (c : Nat)
  /-- the script -/
  | scr (l : List Int)

mutual
def D.fz : D → D
  | .own l => .lst (D.fzs l)
  | .tup l => .tup (D.fzs l)
  | .non => .non | .bl b => .bl b | .int i => .int i | .str s => .str s | .lst l => .lst l | .cell c => .cell c | .scr l => .scr l
def D.fzs : List D → List D
  | [] => []
  | d :: l => d.fz :: D.fzs l
end

/-- a list that stands still | a tuple | the script -/
def LR (M : Addr → Prop) (H : Hp) (p : Addr) (xs : List V) : Prop := H p = some (.lst xs) ∧ ¬ M p
def TR (K : PySem.W.Frag) (M : Addr → Prop) (H : Hp) (p : Addr) (xs : List V) : Prop := (H p = some (.tup xs) ∧ ¬ M p) ∨ ∀ H', SqT K H' p xs
def ZR (K : PySem.W.Frag) (M : Addr → Prop) (H : Hp) (p : Addr) (xs : List V) : Prop := (Rd H p (.lst xs) ∧ ¬ M p) ∨ ∀ H', SqL K H' p xs

mutual
inductive RV (K : PySem.W.Frag) (C : List Addr) (M : Addr → Prop) (H : Hp) : V → D → List Addr → Prop
  | non : RV K C M H .non .non []
  | bl (b : Bool) : RV K C M H (.bl b) (.bl b) []
  | int (i : Int) : RV K C M H (.int i) (.int i) []
  | str (s : Str) : RV K C M H (.str s) (.str s) []
  | tup {p : Addr} {xs : List V} {ds : List D} {os : List Addr} : TR K M H p xs → RVs K C M H xs ds os → RV K C M H (.ref p) (.tup ds) os
  | lst {p : Addr} {xs : List V} {ds : List D} : LR M H p xs → RVs K C M H xs ds [] → RV K C M H (.ref p) (.lst ds) []
  | own {p : Addr} {xs : List V} {ds : List D} {os : List Addr} : H p = some (.lst xs) → RVs K C M H xs ds os → RV K C M H (.ref p) (.own ds) (p :: os)
  | cell {p : Addr} {c : Nat} : C[c]? = some p → RV K C M H (.ref p) (.cell c) []
  | scr {p : Addr} {ns : List Int} : ZR K M H p (ns.map V.int) → RV K C M H (.ref p) (.scr ns) []
inductive RVs (K : PySem.W.Frag) (C : List Addr) (M : Addr → Prop) (H : Hp) : List V → List D → List Addr → Prop
  | nil : RVs K C M H [] [] []
  | cons {v : V} {vs : List V} {d : D} {ds : List D} {o1 o2 : List Addr} : RV K C M H v d o1 → RVs K C M H vs ds o2 → RVs K C M H (v :: vs) (d :: ds) (o1 ++ o2)
end

section
variable {K : PySem.W.Frag} {C C' : List Addr} {M M' : Addr → Prop} {H H' : Hp}
theorem rd_keep {p : Addr} {u : HO} (k : ∀ a o, ¬ M a → H a = some o → H' a = some o) (n : ¬ M p) (h : Rd H p u) : Rd H' p u := by
  rcases h with h | ⟨o, h⟩
  · exact .inl (k _ _ n h)
  · exact .inr ⟨o, k _ _ n h⟩
theorem rd_trk {p : Addr} {u : HO} (h : Rd H p u) : ∃ o, H p = some o := by
  rcases h with h | ⟨o, h⟩ <;> exact ⟨_, h⟩
theorem LR.mono {p : Addr} {xs : List V} (k : ∀ a o, ¬ M a → H a = some o → H' a = some o) (n : ∀ a o, ¬ M a → H a = some o → ¬ M' a) (h : LR M H p xs) : LR M' H' p xs := ⟨k _ _ h.2 h.1, n _ _ h.2 h.1⟩
theorem TR.mono {p : Addr} {xs : List V} (k : ∀ a o, ¬ M a → H a = some o → H' a = some o) (n : ∀ a o, ¬ M a → H a = some o → ¬ M' a) (h : TR K M H p xs) : TR K M' H' p xs := by
  rcases h with ⟨h, hm⟩ | h
  · exact .inl ⟨k _ _ hm h, n _ _ hm h⟩
  · exact .inr h
theorem ZR.mono {p : Addr} {xs : List V} (k : ∀ a o, ¬ M a → H a = some o → H' a = some o) (n : ∀ a o, ¬ M a → H a = some o → ¬ M' a) (h : ZR K M H p xs) : ZR K M' H' p xs := by
  rcases h with ⟨h, hm⟩ | h
  · obtain ⟨o, e⟩ := rd_trk h
    exact .inl ⟨rd_keep k hm h, n _ _ hm e⟩
  · exact .inr h
mutual
theorem RV.mono (hc : ∀ (c : Nat) (p : Addr), C[c]? = some p → C'[c]? = some p) (k : ∀ a o, ¬ M a → H a = some o → H' a = some o) (n : ∀ a o, ¬ M a → H a = some o → ¬ M' a) :
    ∀ {v : V} {d : D} {os : List Addr}, RV K C M H v d os → (∀ a ∈ os, ∀ o, H a = some o → H' a = some o) → RV K C' M' H' v d os
  | _, _, _, .non, _ => .non
  | _, _, _, .bl b, _ => .bl b
  | _, _, _, .int i, _ => .int i
  | _, _, _, .str s, _ => .str s
  | _, _, _, .tup h r, q => .tup (h.mono k n) (r.mono hc k n q)
  | _, _, _, .lst h r, _ => .lst (h.mono k n) (r.mono hc k n fun _ z => nomatch z)
  | _, _, _, .own h r, q => .own (q _ (List.mem_cons_self ..) _ h) (r.mono hc k n fun a ha => q a (List.mem_cons_of_mem _ ha))
  | _, _, _, .cell h, _ => .cell (hc _ _ h)
  | _, _, _, .scr h, _ => .scr (h.mono k n)
theorem RVs.mono (hc : ∀ (c : Nat) (p : Addr), C[c]? = some p → C'[c]? = some p) (k : ∀ a o, ¬ M a → H a = some o → H' a = some o) (n : ∀ a o, ¬ M a → H a = some o → ¬ M' a) :
    ∀ {vs : List V} {ds : List D} {os : List Addr}, RVs K C M H vs ds os → (∀ a ∈ os, ∀ o, H a = some o → H' a = some o) → RVs K C' M' H' vs ds os
  | _, _, _, .nil, _ => .nil
  | _, _, _, .cons h r, q => .cons (h.mono hc k n fun a ha => q a (List.mem_append_left _ ha)) (r.mono hc k n fun a ha => q a (List.mem_append_right _ ha))
end
mutual
theorem RV.fz (n : ∀ a, ¬ M a → ¬ M' a) : ∀ {v : V} {d : D} {os : List Addr}, RV K C M H v d os → (∀ a ∈ os, ¬ M' a) → RV K C M' H v d.fz []
  | _, _, _, .non, _ => by simp only [D.fz]; exact .non
  | _, _, _, .bl b, _ => by simp only [D.fz]; exact .bl b
  | _, _, _, .int i, _ => by simp only [D.fz]; exact .int i
  | _, _, _, .str s, _ => by simp only [D.fz]; exact .str s
  | _, _, _, .tup h r, q => by simp only [D.fz]; exact .tup (h.mono (fun _ _ _ e => e) fun a _ z _ => n a z) (r.fz n q)
  | _, _, _, .lst h r, _ => by simp only [D.fz]; exact .lst (h.mono (fun _ _ _ e => e) fun a _ z _ => n a z) (r.mono (fun _ _ e => e) (fun _ _ _ e => e) (fun a _ z _ => n a z) fun _ z => nomatch z)
  | _, _, _, .own h r, q => by simp only [D.fz]; exact .lst ⟨h, q _ (List.mem_cons_self ..)⟩ (r.fz n fun a ha => q a (List.mem_cons_of_mem _ ha))
  | _, _, _, .cell h, _ => by simp only [D.fz]; exact .cell h
  | _, _, _, .scr h, _ => by simp only [D.fz]; exact .scr (h.mono (fun _ _ _ e => e) fun a _ z _ => n a z)
theorem RVs.fz (n : ∀ a, ¬ M a → ¬ M' a) : ∀ {vs : List V} {ds : List D} {os : List Addr}, RVs K C M H vs ds os → (∀ a ∈ os, ¬ M' a) → RVs K C M' H vs (D.fzs ds) []
  | _, _, _, .nil, _ => by simp only [D.fzs]; exact .nil
  | _, _, _, .cons h r, q => by
    simp only [D.fzs]
    exact RVs.cons (o1 := []) (o2 := []) (h.fz n fun a ha => q a (List.mem_append_left _ ha)) (r.fz n fun a ha => q a (List.mem_append_right _ ha))
end
mutual
theorem RV.otr : ∀ {v : V} {d : D} {os : List Addr}, RV K C M H v d os → ∀ a ∈ os, ∃ o, H a = some o
  | _, _, _, .non, _, h => nomatch h
  | _, _, _, .bl b, _, h => nomatch h
  | _, _, _, .int i, _, h => nomatch h
  | _, _, _, .str s, _, h => nomatch h
  | _, _, _, .tup _ r, a, h => r.otr a h
  | _, _, _, .lst _ _, _, h => nomatch h
  | _, _, _, .own e r, a, h => by
    rcases List.mem_cons.mp h with z | z
    · subst z
      exact ⟨_, e⟩
    · exact r.otr a z
  | _, _, _, .cell _, _, h => nomatch h
  | _, _, _, .scr _, _, h => nomatch h
theorem RVs.otr : ∀ {vs : List V} {ds : List D} {os : List Addr}, RVs K C M H vs ds os → ∀ a ∈ os, ∃ o, H a = some o
  | _, _, _, .nil, _, h => nomatch h
  | _, _, _, .cons r s, a, h => by
    rcases List.mem_append.mp h with z | z
    · exact r.otr a z
    · exact s.otr a z
end
theorem RVs.len : ∀ {vs : List V} {ds : List D} {os : List Addr}, RVs K C M H vs ds os → vs.length = ds.length
  | _, _, _, .nil => rfl
  | _, _, _, .cons _ r => by rw [List.length_cons, List.length_cons, r.len]
theorem RVs.app : ∀ {vs us : List V} {ds es : List D} {os ps : List Addr}, RVs K C M H vs ds os → RVs K C M H us es ps → RVs K C M H (vs ++ us) (ds ++ es) (os ++ ps)
  | _, _, _, _, _, _, .nil, s => s
  | _, _, _, _, _, _, .cons h r, s => by
    rw [List.append_assoc]
    exact .cons h (r.app s)
theorem RVs.one {v : V} {d : D} {os : List Addr} (h : RV K C M H v d os) : RVs K C M H [v] [d] os := by
  have q := RVs.cons h RVs.nil
  rw [List.append_nil] at q
  exact q
theorem RVs.get : ∀ {vs : List V} {ds : List D} {os : List Addr}, RVs K C M H vs ds os → ∀ {i : Nat} {d : D}, ds[i]? = some d → ∃ v o, vs[i]? = some v ∧ RV K C M H v d o ∧ ∀ a ∈ o, a ∈ os
  | _, _, _, .nil, i, d, e => by simp at e
  | _, _, _, .cons h r, 0, d, e => by
    simp only [List.getElem?_cons_zero, Option.some.injEq] at e
    subst e
    exact ⟨_, _, rfl, h, fun a ha => List.mem_append_left _ ha⟩
  | _, _, _, .cons h r, i + 1, d, e => by
    simp only [List.getElem?_cons_succ] at e
    obtain ⟨v, o, e1, q, w⟩ := r.get e
    exact ⟨v, o, by simpa using e1, q, fun a ha => List.mem_append_right _ (w a ha)⟩
theorem nil_of {os : List Addr} (h : ∀ a ∈ os, a ∈ ([] : List Addr)) : os = [] := List.eq_nil_iff_forall_not_mem.mpr fun a ha => nomatch h a ha
theorem RVs.get0 {vs : List V} {ds : List D} {i : Nat} {d : D} (h : RVs K C M H vs ds []) (e : ds[i]? = some d) : ∃ v, vs[i]? = some v ∧ RV K C M H v d [] := by
  obtain ⟨v, o, e1, q, w⟩ := h.get e
  obtain rfl := nil_of w
  exact ⟨v, e1, q⟩
theorem RVs.take0 : ∀ {vs : List V} {ds : List D} {os : List Addr} (n : Nat), RVs K C M H vs ds os → os = [] → RVs K C M H (vs.take n) (ds.take n) []
  | _, _, _, 0, _, _ => .nil
  | _, _, _, n + 1, .nil, _ => .nil
  | _, _, _, n + 1, .cons h r, e => by
    obtain ⟨e1, e2⟩ := List.append_eq_nil_iff.mp e
    subst e1 e2
    exact RVs.cons (o1 := []) (o2 := []) h (r.take0 n rfl)
theorem RVs.drop0 : ∀ {vs : List V} {ds : List D} {os : List Addr} (n : Nat), RVs K C M H vs ds os → os = [] → RVs K C M H (vs.drop n) (ds.drop n) []
  | _, _, _, 0, r, e => e ▸ r
  | _, _, _, n + 1, .nil, _ => .nil
  | _, _, _, n + 1, .cons h r, e => by
    obtain ⟨e1, e2⟩ := List.append_eq_nil_iff.mp e
    subst e1 e2
    exact r.drop0 n rfl
theorem RVs.set0 {v : V} {d : D} (q : RV K C M H v d []) : ∀ {vs : List V} {ds : List D} {os : List Addr} (n : Nat), RVs K C M H vs ds os → os = [] → RVs K C M H (vs.set n v) (ds.set n d) []
  | _, _, _, _, .nil, _ => .nil
  | _, _, _, 0, .cons h r, e => by
    obtain ⟨e1, e2⟩ := List.append_eq_nil_iff.mp e
    subst e1 e2
    exact RVs.cons (o1 := []) (o2 := []) q r
  | _, _, _, n + 1, .cons h r, e => by
    obtain ⟨e1, e2⟩ := List.append_eq_nil_iff.mp e
    subst e1 e2
    exact RVs.cons (o1 := []) (o2 := []) h (RVs.set0 q n r rfl)
theorem RVs.cons0 {v : V} {vs : List V} {d : D} {ds : List D} (h : RV K C M H v d []) (r : RVs K C M H vs ds []) : RVs K C M H (v :: vs) (d :: ds) [] := RVs.cons (o1 := []) (o2 := []) h r
theorem RVs.app0 {vs us : List V} {ds es : List D} (h : RVs K C M H vs ds []) (r : RVs K C M H us es []) : RVs K C M H (vs ++ us) (ds ++ es) [] := h.app r
theorem RVs.ints : ∀ (ns : List Int), RVs K C M H (ns.map V.int) (ns.map D.int) []
  | [] => .nil
  | n :: r => RVs.cons0 (.int n) (RVs.ints r)
end

/-! ### the frame -/
abbrev Env := List (Option D)
abbrev Ms := List (List D)
/-- the cells: lists that callees may change; what they hold is free of cells and stands still -/
structure CI (K : PySem.W.Frag) (C : List Addr) (M : Addr → Prop) (H : Hp) (st : Ms) : Prop where
  len : st.length = C.length
  at_ : ∀ (i : Nat) (ds : List D) (p : Addr), st[i]? = some ds → C[i]? = some p → ∃ xs, H p = some (.lst xs) ∧ RVs K [] M H xs ds []
  nd : C.Nodup
  mC : ∀ p ∈ C, M p
  tr : ∀ p, M p → ∃ o, H p = some o
inductive RSl (K : PySem.W.Frag) (C : List Addr) (M : Addr → Prop) (H : Hp) : L2.St → Env → List Addr → Prop
  | nil : RSl K C M H [] [] []
  | no {x : Option V} {σ : L2.St} {env : Env} {O : List Addr} : RSl K C M H σ env O → RSl K C M H (x :: σ) (none :: env) O
  | so {v : V} {d : D} {σ : L2.St} {env : Env} {o O : List Addr} : RV K C M H v d o → RSl K C M H σ env O → RSl K C M H (some v :: σ) (some d :: env) (o ++ O)
structure FI (K : PySem.W.Frag) (C O : List Addr) (M : Addr → Prop) (H : Hp) (σ : L2.St) (env : Env) (st : Ms) : Prop where
  ci : CI K C M H st
  sl : RSl K C M H σ env O
  od : O.Nodup
  oc : ∀ a ∈ O, a ∉ C
  mO : ∀ a ∈ O, M a
/-- from one state to a later one; w: what the frame owns may be written, else the cells at C alone -/
structure Go (w : Prop) (C O : List Addr) (M : Addr → Prop) (H : Hp) (C' O' : List Addr) (M' : Addr → Prop) (H' : Hp) : Prop where
  keep : ∀ a o, a ∉ C → (w → a ∉ O) → H a = some o → H' a = some o
  pre : ∃ C1, C' = C ++ C1
  newc : ∀ a ∈ C', a ∈ C ∨ (w ∧ a ∈ O) ∨ H a = none
  fresh : ∀ a, M' a → M a ∨ H a = none
  forn : ∀ a, M a → a ∉ O → M' a
  ownd : ∀ a ∈ O', a ∈ O ∨ H a = none
  back : ∀ a, H' a = none → H a = none
section
variable {K : PySem.W.Frag} {C C' C'' O O' O'' : List Addr} {M M' M'' : Addr → Prop} {H H' H'' : Hp} {w : Prop} {st st' : Ms} {σ : L2.St} {env env' : Env}
theorem Go.refl : Go w C O M H C O M H := ⟨fun _ _ _ _ e => e, ⟨[], (List.append_nil C).symm⟩, fun _ h => .inl h, fun _ h => .inl h, fun _ h _ => h, fun _ h => .inl h, fun _ h => h⟩
theorem Go.weak (g : Go False C O M H C' O' M' H') : Go w C O M H C' O' M' H' := ⟨fun a o h1 _ e => g.keep a o h1 (fun z => z.elim) e, g.pre, fun a h => (g.newc a h).imp id fun z => .inr (z.elim (fun y => y.1.elim) id), g.fresh, g.forn, g.ownd, g.back⟩
theorem Go.newc0 (g : Go False C O M H C' O' M' H') : ∀ a ∈ C', a ∈ C ∨ H a = none := fun a h => (g.newc a h).imp id fun z => z.elim (fun y => y.1.elim) id
theorem Go.trans (t : ∀ p, M p → ∃ o, H p = some o) (g : Go w C O M H C' O' M' H') (g' : Go w C' O' M' H' C'' O'' M'' H'') : Go w C O M H C'' O'' M'' H'' where
  keep := fun a o h1 h2 e => by
    refine g'.keep a o (fun z => ?_) (fun hw z => ?_) (g.keep a o h1 h2 e)
    · rcases g.newc a z with z | ⟨y, z⟩ | z
      · exact h1 z
      · exact h2 y z
      · rw [e] at z; cases z
    · rcases g.ownd a z with z | z
      · exact h2 hw z
      · rw [e] at z; cases z
  pre := by
    obtain ⟨C1, e1⟩ := g.pre
    obtain ⟨C2, e2⟩ := g'.pre
    exact ⟨C1 ++ C2, by rw [e2, e1, List.append_assoc]⟩
  newc := fun a h => by
    rcases g'.newc a h with z | ⟨y, z⟩ | z
    · exact g.newc a z
    · rcases g.ownd a z with z | z
      · exact .inr (.inl ⟨y, z⟩)
      · exact .inr (.inr z)
    · exact .inr (.inr (g.back a z))
  fresh := fun a h => by
    rcases g'.fresh a h with z | z
    · exact g.fresh a z
    · exact .inr (g.back a z)
  forn := fun a h n => by
    refine g'.forn a (g.forn a h n) fun z => ?_
    rcases g.ownd a z with z | z
    · exact n z
    · obtain ⟨o, e⟩ := t a h
      rw [e] at z; cases z
  ownd := fun a h => by
    rcases g'.ownd a h with z | z
    · exact g.ownd a z
    · exact .inr (g.back a z)
  back := fun a h => g.back a (g'.back a h)
theorem Go.cat (g : Go w C O M H C' O' M' H') : ∀ (c : Nat) (p : Addr), C[c]? = some p → C'[c]? = some p := fun c p e => by
  obtain ⟨C1, q⟩ := g.pre
  rw [q, List.getElem?_append_left (List.getElem?_eq_some_iff.mp e).1]
  exact e
/-- what stands still and what is owned elsewhere is borne on -/
theorem Go.rv (g : Go False C O M H C' O' M' H') (hC : ∀ p ∈ C, M p) {v : V} {d : D} {os : List Addr} (r : RV K C M H v d os) (n : ∀ a ∈ os, a ∉ C) : RV K C' M' H' v d os :=
  r.mono g.cat (fun a o h e => g.keep a o (fun z => h (hC a z)) (fun z => z.elim) e) (fun a o h e z => by
    rcases g.fresh a z with z | z
    · exact h z
    · rw [e] at z; cases z) fun a ha o e => g.keep a o (n a ha) (fun z => z.elim) e
theorem Go.rvs (g : Go False C O M H C' O' M' H') (hC : ∀ p ∈ C, M p) {v : List V} {d : List D} {os : List Addr} (r : RVs K C M H v d os) (n : ∀ a ∈ os, a ∉ C) : RVs K C' M' H' v d os :=
  r.mono g.cat (fun a o h e => g.keep a o (fun z => h (hC a z)) (fun z => z.elim) e) (fun a o h e z => by
    rcases g.fresh a z with z | z
    · exact h z
    · rw [e] at z; cases z) fun a ha o e => g.keep a o (n a ha) (fun z => z.elim) e
/-- .. what stands still alone, through statements -/
theorem Go.rv0 (g : Go w C O M H C' O' M' H') (hC : ∀ p ∈ C, M p) (hO : ∀ p ∈ O, M p) {v : V} {d : D} (r : RV K C M H v d []) : RV K C' M' H' v d [] :=
  r.mono g.cat (fun a o h e => g.keep a o (fun z => h (hC a z)) (fun _ z => h (hO a z)) e) (fun a o h e z => by
    rcases g.fresh a z with z | z
    · exact h z
    · rw [e] at z; cases z) fun a ha => nomatch ha
theorem Go.rvs0 (g : Go w C O M H C' O' M' H') (hC : ∀ p ∈ C, M p) (hO : ∀ p ∈ O, M p) {v : List V} {d : List D} (r : RVs K C M H v d []) : RVs K C' M' H' v d [] :=
  r.mono g.cat (fun a o h e => g.keep a o (fun z => h (hC a z)) (fun _ z => h (hO a z)) e) (fun a o h e z => by
    rcases g.fresh a z with z | z
    · exact h z
    · rw [e] at z; cases z) fun a ha => nomatch ha

/-- the heap grows, the forbidden places with it -/
structure Gr (M : Addr → Prop) (H : Hp) (M' : Addr → Prop) (H' : Hp) : Prop where
  keep : ∀ a o, H a = some o → H' a = some o
  up : ∀ a, M a → M' a
  fresh : ∀ a, M' a → M a ∨ H a = none
  tr : ∀ a, M' a → ∃ o, H' a = some o
theorem Gr.refl (t : ∀ a, M a → ∃ o, H a = some o) : Gr M H M H := ⟨fun _ _ e => e, fun _ h => h, fun _ h => .inl h, t⟩
theorem Gr.tup {p : Addr} {o : HO} (t : ∀ a, M a → ∃ o, H a = some o) (n : H p = none) : Gr M H M (upd H p o) :=
  ⟨fun a u e => by rw [upd_ne (ne_of_none e n)]; exact e, fun _ h => h, fun _ h => .inl h, fun a h => by
    obtain ⟨u, e⟩ := t a h
    exact ⟨u, by rw [upd_ne (ne_of_none e n)]; exact e⟩⟩
theorem Gr.own {p : Addr} {o : HO} (t : ∀ a, M a → ∃ o, H a = some o) (n : H p = none) : Gr M H (fun a => M a ∨ a = p) (upd H p o) :=
  ⟨fun a u e => by rw [upd_ne (ne_of_none e n)]; exact e, fun _ h => .inl h, fun a h => by
    rcases h with h | h
    · exact .inl h
    · subst h; exact .inr n, fun a h => by
    rcases h with h | h
    · obtain ⟨u, e⟩ := t a h
      exact ⟨u, by rw [upd_ne (ne_of_none e n)]; exact e⟩
    · subst h; exact ⟨_, upd_same⟩⟩
theorem Gr.trans (g : Gr M H M' H') (g' : Gr M' H' M'' H'') : Gr M H M'' H'' :=
  ⟨fun a o e => g'.keep a o (g.keep a o e), fun a h => g'.up a (g.up a h), fun a h => by
    rcases g'.fresh a h with z | z
    · exact g.fresh a z
    · exact .inr (by
        cases e : H a with
        | none => rfl
        | some o =>
          rw [g.keep a o e] at z
          cases z), g'.tr⟩
theorem Gr.rv (g : Gr M H M' H') {v : V} {d : D} {os : List Addr} (r : RV K C M H v d os) : RV K C M' H' v d os :=
  r.mono (fun _ _ e => e) (fun a o _ e => g.keep a o e) (fun a o h e z => by
    rcases g.fresh a z with z | z
    · exact h z
    · rw [e] at z; cases z) fun a _ o e => g.keep a o e
theorem Gr.rvs (g : Gr M H M' H') {v : List V} {d : List D} {os : List Addr} (r : RVs K C M H v d os) : RVs K C M' H' v d os :=
  r.mono (fun _ _ e => e) (fun a o _ e => g.keep a o e) (fun a o h e z => by
    rcases g.fresh a z with z | z
    · exact h z
    · rw [e] at z; cases z) fun a _ o e => g.keep a o e
theorem Gr.ci (g : Gr M H M' H') (c : CI K C M H st) : CI K C M' H' st :=
  ⟨c.len, fun i ds p e1 e2 => by
    obtain ⟨xs, h, r⟩ := c.at_ i ds p e1 e2
    exact ⟨xs, g.keep _ _ h, g.rvs r⟩, c.nd, fun p hp => g.up p (c.mC p hp), g.tr⟩
theorem RSl.grow (g : Gr M H M' H') : ∀ {σ : L2.St} {env : Env} {O : List Addr}, RSl K C M H σ env O → RSl K C M' H' σ env O
  | _, _, _, .nil => .nil
  | _, _, _, .no r => .no (r.grow g)
  | _, _, _, .so h r => .so (g.rv h) (r.grow g)
theorem Gr.fi (g : Gr M H M' H') (f : FI K C O M H σ env st) : FI K C O M' H' σ env st := ⟨g.ci f.ci, f.sl.grow g, f.od, f.oc, fun a h => g.up a (f.mO a h)⟩
theorem Gr.go (g : Gr M H M' H') : Go w C O M H C O M' H' := ⟨fun a o _ _ e => g.keep a o e, ⟨[], (List.append_nil C).symm⟩, fun _ h => .inl h, g.fresh, fun a h _ => g.up a h, fun _ h => .inl h, fun a h => by
  cases e : H a with
  | none => rfl
  | some o =>
    rw [g.keep a o e] at h
    cases h⟩

/-- forbidden no more: what is in os -/
theorem CI.less {os : List Addr} (c : CI K C M H st) (n : ∀ a ∈ os, a ∉ C) : CI K C (fun a => M a ∧ a ∉ os) H st :=
  ⟨c.len, fun i ds p e1 e2 => by
    obtain ⟨xs, h, r⟩ := c.at_ i ds p e1 e2
    exact ⟨xs, h, r.mono (fun _ _ e => e) (fun _ _ _ e => e) (fun a o h _ z => h z.1) fun _ z => nomatch z⟩, c.nd, fun p hp => ⟨c.mC p hp, fun z => n p z hp⟩, fun p h => c.tr p h.1⟩
theorem RSl.less {M' : Addr → Prop} (n : ∀ a, ¬ M a → ¬ M' a) : ∀ {σ : L2.St} {env : Env} {O : List Addr}, RSl K C M H σ env O → RSl K C M' H σ env O
  | _, _, _, .nil => .nil
  | _, _, _, .no r => .no (r.less n)
  | _, _, _, .so h r => .so (h.mono (fun _ _ e => e) (fun _ _ _ e => e) (fun a o h _ => n a h) fun _ _ _ e => e) (r.less n)
theorem FI.less {os : List Addr} (f : FI K C O M H σ env st) (n : ∀ a ∈ os, a ∉ C) (n' : ∀ a ∈ os, a ∉ O) : FI K C O (fun a => M a ∧ a ∉ os) H σ env st :=
  ⟨f.ci.less n, f.sl.less (fun a h z => h z.1), f.od, f.oc, fun a h => ⟨f.mO a h, fun z => n' a z h⟩⟩

/-! ### slots -/
theorem RSl.len : ∀ {σ : L2.St} {env : Env} {O : List Addr}, RSl K C M H σ env O → σ.length = env.length
  | _, _, _, .nil => rfl
  | _, _, _, .no r => by rw [List.length_cons, List.length_cons, r.len]
  | _, _, _, .so _ r => by rw [List.length_cons, List.length_cons, r.len]
theorem RSl.mono (hc : ∀ (c : Nat) (p : Addr), C[c]? = some p → C'[c]? = some p) (k : ∀ a o, ¬ M a → H a = some o → H' a = some o) (n : ∀ a o, ¬ M a → H a = some o → ¬ M' a) :
    ∀ {σ : L2.St} {env : Env} {O : List Addr}, RSl K C M H σ env O → (∀ a ∈ O, ∀ o, H a = some o → H' a = some o) → RSl K C' M' H' σ env O
  | _, _, _, .nil, _ => .nil
  | _, _, _, .no r, q => .no (r.mono hc k n q)
  | _, _, _, .so h r, q => .so (h.mono hc k n fun a ha => q a (List.mem_append_left _ ha)) (r.mono hc k n fun a ha => q a (List.mem_append_right _ ha))
/-- a slot's value, what it owns, and all the others' -/
theorem RSl.get : ∀ {σ : L2.St} {env : Env} {O : List Addr}, RSl K C M H σ env O → ∀ {i : Nat} {d : D}, env[i]? = some (some d) →
    ∃ v o, σ[i]? = some (some v) ∧ RV K C M H v d o ∧ ∃ O1 O2, O = O1 ++ (o ++ O2) ∧ ∀ (C' : List Addr) (M' : Addr → Prop) (H' : Hp), (∀ (c : Nat) (p : Addr), C[c]? = some p → C'[c]? = some p) → (∀ a o, ¬ M a → H a = some o → H' a = some o) → (∀ a o, ¬ M a → H a = some o → ¬ M' a) →
      (∀ a ∈ O1 ++ O2, ∀ o, H a = some o → H' a = some o) → RSl K C' M' H' σ (env.set i none) (O1 ++ O2) ∧ ∀ d' o', RV K C' M' H' v d' o' → RSl K C' M' H' σ (env.set i (some d')) (O1 ++ (o' ++ O2))
  | _, _, _, .nil, i, d, e => by simp at e
  | _, _, _, .no r, 0, d, e => by simp at e
  | _, _, _, .so (o := o) (O := O) h r, 0, d, e => by
    simp only [List.getElem?_cons_zero, Option.some.injEq] at e
    subst e
    exact ⟨_, o, rfl, h, [], O, rfl, fun C' M' H' hc k n q => ⟨.no (r.mono hc k n q), fun d' o' w => RSl.so (o := o') w (r.mono hc k n q)⟩⟩
  | _, _, _, .no r, i + 1, d, e => by
    simp only [List.getElem?_cons_succ] at e
    obtain ⟨v, o, e1, q, O1, O2, eo, z⟩ := r.get e
    exact ⟨v, o, by simpa using e1, q, O1, O2, eo, fun C' M' H' hc k n q => ⟨.no (z C' M' H' hc k n q).1, fun d' o' w => .no ((z C' M' H' hc k n q).2 d' o' w)⟩⟩
  | _, _, _, .so (o := a) h r, i + 1, d, e => by
    simp only [List.getElem?_cons_succ] at e
    obtain ⟨v, o, e1, q, O1, O2, eo, z⟩ := r.get e
    refine ⟨v, o, by simpa using e1, q, a ++ O1, O2, by rw [eo, List.append_assoc], fun C' M' H' hc k n q => ?_⟩
    rw [List.append_assoc] at q
    have z' := z C' M' H' hc k n fun x hx => q x (List.mem_append_right _ hx)
    have h' := h.mono hc k n fun x hx => q x (List.mem_append_left _ hx)
    refine ⟨?_, fun d' o' w => ?_⟩
    · rw [List.append_assoc]
      exact .so h' z'.1
    · rw [List.append_assoc]
      exact .so h' (z'.2 d' o' w)
/-- a slot is stored anew: what it owned is dropped -/
theorem RSl.set : ∀ {σ : L2.St} {env : Env} {O : List Addr}, RSl K C M H σ env O → ∀ {i : Nat} {v : V} {d : D} {o : List Addr}, i < env.length → RV K C M H v d o →
    ∃ O1 o0 O2, O = O1 ++ (o0 ++ O2) ∧ RSl K C M H (σ.set i (some v)) (env.set i (some d)) (O1 ++ (o ++ O2))
  | _, _, _, .nil, i, v, d, o, hi, _ => by simp at hi
  | _, _, _, .no (O := O) r, 0, v, d, o, hi, q => ⟨[], [], O, rfl, RSl.so (o := o) q r⟩
  | _, _, _, .so (o := a) (O := O) h r, 0, v, d, o, hi, q => ⟨[], a, O, rfl, RSl.so (o := o) q r⟩
  | _, _, _, .no r, i + 1, v, d, o, hi, q => by
    obtain ⟨O1, o0, O2, e, z⟩ := r.set (i := i) (by simpa using hi) q
    exact ⟨O1, o0, O2, e, .no z⟩
  | _, _, _, .so (o := a) h r, i + 1, v, d, o, hi, q => by
    obtain ⟨O1, o0, O2, e, z⟩ := r.set (i := i) (by simpa using hi) q
    refine ⟨a ++ O1, o0, O2, by rw [e, List.append_assoc], ?_⟩
    rw [List.append_assoc]
    exact .so h z
/-- a slot is forgotten -/
theorem RSl.drop : ∀ {σ : L2.St} {env : Env} {O : List Addr}, RSl K C M H σ env O → ∀ (i : Nat) (x : Option V), ∃ O1 o0 O2, O = O1 ++ (o0 ++ O2) ∧ RSl K C M H (σ.set i x) (env.set i none) (O1 ++ O2)
  | _, _, _, .nil, i, x => ⟨[], [], [], rfl, .nil⟩
  | _, _, _, .no (O := O) r, 0, x => ⟨[], [], O, rfl, .no r⟩
  | _, _, _, .so (o := a) (O := O) h r, 0, x => ⟨[], a, O, rfl, .no r⟩
  | _, _, _, .no r, i + 1, x => by
    obtain ⟨O1, o0, O2, e, z⟩ := r.drop i x
    exact ⟨O1, o0, O2, e, .no z⟩
  | _, _, _, .so (o := a) h r, i + 1, x => by
    obtain ⟨O1, o0, O2, e, z⟩ := r.drop i x
    refine ⟨a ++ O1, o0, O2, by rw [e, List.append_assoc], ?_⟩
    rw [List.append_assoc]
    exact .so h z
end
end Pv

/-! # PvB -/
set_option Elab.async false
set_option linter.all false
set_option maxHeartbeats 1000000
/-! judgements: what an expression gives, as a plain function of the frame's data -/
namespace Pv
open PySem L2

theorem pe_weak {X : Cx} {e : Expr} {t t' : TE} (h : PE X e t) (i : ∀ σ H Q, t' σ H Q → t σ H Q) : PE X e t' := ⟨fun pins s σ H Q I q => h.run pins s σ H Q I (i σ H Q q)⟩
theorem pt_weak {X : Cx} {e : Expr} {t t' : TT} (h : PT X e t) (i : ∀ σ H Q, t' σ H Q → t σ H Q) : PT X e t' := ⟨fun pins s σ H Q I q => h.run pins s σ H Q I (i σ H Q q)⟩
theorem pw_weak {X : Cx} {e : Expr} {t t' : TT} (h : PW X e t) (i : ∀ σ H Q, t' σ H Q → t σ H Q) : PW X e t' := ⟨fun wh pins s σ H Q I q => h.run wh pins s σ H Q I (i σ H Q q)⟩
theorem pa_weak {X : Cx} {e : List Expr} {t t' : TA} (h : PA X e t) (i : ∀ σ H Q, t' σ H Q → t σ H Q) : PA X e t' := ⟨fun pos pins s σ H Q I q => h.run pos pins s σ H Q I (i σ H Q q)⟩
theorem ps_weak {X : Cx} {e : Stmt} {t t' : TS} (h : PS X e t) (i : ∀ D σ H, t' D σ H → t D σ H) : PS X e t' := ⟨fun pins s σ H D I q => h.run pins s σ H D I (i D σ H q)⟩
theorem pss_weak {X : Cx} {e : List Stmt} {t t' : TS} (h : PSs X e t) (i : ∀ D σ H, t' D σ H → t D σ H) : PSs X e t' := ⟨fun pins s σ H D I q => h.run pins s σ H D I (i D σ H q)⟩

abbrev ES := Env → Ms → Option (D × Env × Ms)
abbrev AS := Env → Ms → Option (List D × Env × Ms)
abbrev BS := Env → Ms → Option (Bool × Env × Ms)

/-- to be looked at | a value that nobody else owns | a value that stands still -/
def tP (K : PySem.W.Frag) (f : ES) : TE := fun σ H Q => ∃ C O M env st d env' st', FI K C O M H σ env st ∧ f env st = some (d, env', st') ∧
  ∀ v H' C' O' M' os, Go False C O M H C' O' M' H' → FI K C' O' M' H' σ env' st' → RV K C' M' H' v d os → (∀ a ∈ os, a ∉ C') → Q v H'
def tE (K : PySem.W.Frag) (f : ES) : TE := fun σ H Q => ∃ C O M env st d env' st', FI K C O M H σ env st ∧ f env st = some (d, env', st') ∧
  ∀ v H' C' O' M' os, Go False C O M H C' O' M' H' → FI K C' O' M' H' σ env' st' → RV K C' M' H' v d os → os.Nodup → (∀ a ∈ os, a ∉ C' ∧ a ∉ O' ∧ M' a ∧ (a ∈ O ∨ H a = none)) → Q v H'
def tZ (K : PySem.W.Frag) (f : ES) : TE := fun σ H Q => ∃ C O M env st d env' st', FI K C O M H σ env st ∧ f env st = some (d, env', st') ∧
  ∀ v H' C' O' M', Go False C O M H C' O' M' H' → FI K C' O' M' H' σ env' st' → RV K C' M' H' v d [] → Q v H'
def SP (X : Cx) (e : Expr) (f : ES) : Prop := PE X e (tP X.K f)
def SE (X : Cx) (e : Expr) (f : ES) : Prop := PE X e (tE X.K f)
def SZ (X : Cx) (e : Expr) (f : ES) : Prop := PE X e (tZ X.K f)
def tPs (K : PySem.W.Frag) (f : AS) : TA := fun σ H Q => ∃ C O M env st d env' st', FI K C O M H σ env st ∧ f env st = some (d, env', st') ∧
  ∀ v H' C' O' M' os, Go False C O M H C' O' M' H' → FI K C' O' M' H' σ env' st' → RVs K C' M' H' v d os → (∀ a ∈ os, a ∉ C') → Q v H'
def tEs (K : PySem.W.Frag) (f : AS) : TA := fun σ H Q => ∃ C O M env st d env' st', FI K C O M H σ env st ∧ f env st = some (d, env', st') ∧
  ∀ v H' C' O' M' os, Go False C O M H C' O' M' H' → FI K C' O' M' H' σ env' st' → RVs K C' M' H' v d os → os.Nodup → (∀ a ∈ os, a ∉ C' ∧ a ∉ O' ∧ M' a ∧ (a ∈ O ∨ H a = none)) → Q v H'
def tZs (K : PySem.W.Frag) (f : AS) : TA := fun σ H Q => ∃ C O M env st d env' st', FI K C O M H σ env st ∧ f env st = some (d, env', st') ∧
  ∀ v H' C' O' M', Go False C O M H C' O' M' H' → FI K C' O' M' H' σ env' st' → RVs K C' M' H' v d [] → Q v H'
def SPs (X : Cx) (e : List Expr) (f : AS) : Prop := PA X e (tPs X.K f)
def SEs (X : Cx) (e : List Expr) (f : AS) : Prop := PA X e (tEs X.K f)
def SZs (X : Cx) (e : List Expr) (f : AS) : Prop := PA X e (tZs X.K f)
def tT (K : PySem.W.Frag) (f : BS) : TT := fun σ H Q => ∃ C O M env st b env' st', FI K C O M H σ env st ∧ f env st = some (b, env', st') ∧
  ∀ H' C' O' M', Go False C O M H C' O' M' H' → FI K C' O' M' H' σ env' st' → Q b H'
def ST (X : Cx) (e : Expr) (f : BS) : Prop := PT X e (tT X.K f)
def SW (X : Cx) (e : Expr) (f : BS) : Prop := PW X e (tT X.K f)

section
variable {K : PySem.W.Frag} {C C' O O' : List Addr} {M M' : Addr → Prop} {H H' : Hp} {st st' : Ms} {σ : L2.St} {env env' : Env} {X : Cx} {ex : Expr} {f f1 f2 f3 : ES} {Q : VK}
theorem FI.noC (fi : FI K C O M H σ env st) {a : Addr} (h : H a = none) : a ∉ C := fun z => by
  obtain ⟨o, q⟩ := fi.ci.tr a (fi.ci.mC a z)
  rw [h] at q; cases q
theorem FI.noO (fi : FI K C O M H σ env st) {a : Addr} (h : H a = none) : a ∉ O := fun z => by
  obtain ⟨o, q⟩ := fi.ci.tr a (fi.mO a z)
  rw [h] at q; cases q
theorem SE.p (h : SE X ex f)  : SP X ex f := pe_weak h fun σ H Q ⟨C, O, M, env, st, d, env', st', fi, e, q⟩ =>
  ⟨C, O, M, env, st, d, env', st', fi, e, fun v H' C' O' M' os g fi' r _ n => q v H' C' O' M' os g fi' r fun a ha => (n a ha).1⟩
theorem SZ.se (h : SZ X ex f) : SE X ex f := pe_weak h fun σ H Q ⟨C, O, M, env, st, d, env', st', fi, e, q⟩ =>
  ⟨C, O, M, env, st, d, env', st', fi, e, fun v H' C' O' M' g fi' r => q v H' C' O' M' [] g fi' r .nil fun a ha => nomatch ha⟩
theorem SZ.p (h : SZ X ex f) : SP X ex f := h.se.p
def fZ (f : ES) : ES := fun env st => (f env st).map fun x => (x.1.fz, x.2)
theorem SE.z (h : SE X ex f) : SZ X ex (fZ f) := pe_weak h fun σ H Q ⟨C, O, M, env, st, d, env', st', fi, e, q⟩ => by
  unfold fZ at e
  rw [Option.map_eq_some_iff] at e
  obtain ⟨⟨d0, env1, st1⟩, e0, e1⟩ := e
  cases e1
  refine ⟨C, O, M, env, st, d0, env', st', fi, e0, fun v H' C' O' M' os g fi' r _ n => ?_⟩
  refine q v H' C' O' (fun a => M' a ∧ a ∉ os) ⟨g.keep, g.pre, g.newc, fun a h => g.fresh a h.1, fun a h1 h2 => ⟨g.forn a h1 h2, fun z => ?_⟩, g.ownd, g.back⟩ (fi'.less (fun a ha => (n a ha).1) fun a ha => (n a ha).2.1) (r.fz (fun a h z => h z.1) fun a ha z => z.2 ha)
  rcases (n a z).2.2.2 with w | w
  · exact h2 w
  · obtain ⟨o, q⟩ := fi.ci.tr a h1
    rw [w] at q; cases q

/-! ### names, constants -/
def fVar (i : Nat) : ES := fun env st => match env[i]? with
  | some (some d) => some (d.fz, env.set i (some d.fz), st)
  | _ => none
def fPk (i : Nat) : ES := fun env st => match env[i]? with
  | some (some d) => some (d, env, st)
  | _ => none
def fMv (i : Nat) : ES := fun env st => match env[i]? with
  | some (some d) => some (d, env.set i none, st)
  | _ => none
def fC (d : D) : ES := fun env st => some (d, env, st)
theorem sp_pk {i : Nat} {x : Str} {pos : Pos} (h : PE X (.Name x pos) (tVar i)) : SP X (.Name x pos) (fPk i) := pe_weak h fun σ H Q ⟨C, O, M, env, st, d, env', st', fi, e, q⟩ => by
  unfold fPk at e
  split at e
  · rename_i d0 e0
    cases e
    obtain ⟨v, o, e1, r, O1, O2, eo, _⟩ := fi.sl.get e0
    refine ⟨v, e1, q v H C O M o .refl fi r fun a ha => fi.oc a ?_⟩
    rw [eo]
    exact List.mem_append_right _ (List.mem_append_left _ ha)
  · cases e
theorem nd3 {O1 o O2 : List Addr} (h : (O1 ++ (o ++ O2)).Nodup) : (O1 ++ O2).Nodup ∧ o.Nodup ∧ ∀ a ∈ o, a ∉ O1 ++ O2 := by
  rw [List.nodup_append] at h
  obtain ⟨h1, h2, h3⟩ := h
  rw [List.nodup_append] at h2
  obtain ⟨h4, h5, h6⟩ := h2
  refine ⟨?_, h4, fun a ha z => ?_⟩
  · rw [List.nodup_append]
    exact ⟨h1, h5, fun a ha b hb => h3 a ha b (List.mem_append_right _ hb)⟩
  · rcases List.mem_append.mp z with z | z
    · exact h3 a z a (List.mem_append_left _ ha) rfl
    · exact h6 a ha a z rfl
theorem sub3 {O1 o O2 : List Addr} {a : Addr} (h : a ∈ O1 ++ O2) : a ∈ O1 ++ (o ++ O2) := by
  rcases List.mem_append.mp h with h | h
  · exact List.mem_append_left _ h
  · exact List.mem_append_right _ (List.mem_append_right _ h)
theorem se_mv {i : Nat} {x : Str} {pos : Pos} (h : PE X (.Name x pos) (tVar i)) : SE X (.Name x pos) (fMv i) := pe_weak h fun σ H Q ⟨C, O, M, env, st, d, env', st', fi, e, q⟩ => by
  unfold fMv at e
  split at e
  · rename_i d0 e0
    cases e
    obtain ⟨v, o, e1, r, O1, O2, eo, z1⟩ := fi.sl.get e0
    subst eo
    obtain ⟨n1, n2, n3⟩ := nd3 fi.od
    refine ⟨v, e1, q v H C (O1 ++ O2) M o ⟨fun _ _ _ _ e => e, ⟨[], (List.append_nil C).symm⟩, fun _ h => .inl h, fun _ h => .inl h, fun _ h _ => h, fun a h => .inl (sub3 h), fun _ h => h⟩
      ⟨fi.ci, (z1 C M H (fun _ _ e => e) (fun _ _ _ e => e) (fun _ _ h _ => h) fun _ _ _ e => e).1, n1, fun a ha => fi.oc a (sub3 ha), fun a ha => fi.mO a (sub3 ha)⟩ r n2 fun a ha => ?_⟩
    have hm : a ∈ O1 ++ (o ++ O2) := List.mem_append_right _ (List.mem_append_left _ ha)
    exact ⟨fi.oc a hm, n3 a ha, fi.mO a hm, .inl hm⟩
  · cases e
theorem sz_var {i : Nat} {x : Str} {pos : Pos} (h : PE X (.Name x pos) (tVar i)) : SZ X (.Name x pos) (fVar i) := pe_weak h fun σ H Q ⟨C, O, M, env, st, d, env', st', fi, e, q⟩ => by
  unfold fVar at e
  split at e
  · rename_i d0 e0
    cases e
    obtain ⟨v, o, e1, r, O1, O2, eo, z2⟩ := fi.sl.get e0
    subst eo
    obtain ⟨n1, n2, n3⟩ := nd3 fi.od
    have ho : ∀ a ∈ o, a ∈ O1 ++ (o ++ O2) := fun a ha => List.mem_append_right _ (List.mem_append_left _ ha)
    have rz : RV X.K C (fun a => M a ∧ a ∉ o) H v d0.fz [] := r.fz (fun a h z => h z.1) fun a ha z => z.2 ha
    refine ⟨v, e1, q v H C (O1 ++ O2) (fun a => M a ∧ a ∉ o) ⟨fun _ _ _ _ e => e, ⟨[], (List.append_nil C).symm⟩, fun _ h => .inl h, fun _ h => .inl h.1, fun a h1 h2 => ⟨h1, fun z => h2 (ho a z)⟩, fun a h => .inl (sub3 h), fun _ h => h⟩
      ⟨fi.ci.less fun a ha => fi.oc a (ho a ha), (z2 C (fun a => M a ∧ a ∉ o) H (fun _ _ e => e) (fun _ _ _ e => e) (fun a _ h _ z => h z.1) fun _ _ _ e => e).2 d0.fz [] rz, n1, fun a ha => fi.oc a (sub3 ha), fun a ha => ⟨fi.mO a (sub3 ha), fun z => n3 a z ha⟩⟩ rz⟩
  · cases e
theorem sz_c {v : V} {d : D} (h : PE X ex (tC v)) (r : ∀ K C M H, RV K C M H v d []) : SZ X ex (fC d) := pe_weak h fun σ H Q ⟨C, O, M, env, st, d, env', st', fi, e, q⟩ => by
  cases e
  exact q v H C O M .refl fi (r ..)
theorem sz_int {i : Int} {j pos} : SZ X (.Constant (.int i) j pos) (fC (.int i)) := sz_c pe_int fun _ _ _ _ => .int i
theorem sz_bl {b : Bool} {j pos} : SZ X (.Constant (.bool b) j pos) (fC (.bl b)) := sz_c pe_bl fun _ _ _ _ => .bl b
theorem sz_non {j pos} : SZ X (.Constant .none j pos) (fC .non) := sz_c pe_non fun _ _ _ _ => .non
theorem sz_str {x : Str} {j pos} : SZ X (.Constant (.str x) j pos) (fC (.str x)) := sz_c pe_str fun _ _ _ _ => .str x
/-- a module's int -/
theorem sz_gi {x : Str} {i : Int} {t : Tok} {pos : Pos} (hg : Gl X x) (hm : X.mg x = some (.int i t)) (hd : (x == ("__debug__" : Str)) = false := by decide) : SZ X (.Name x pos) (fC (.int i)) := sz_c (pe_glob (v := .int i) hg hm ⟨t, rfl⟩ hd) fun _ _ _ _ => .int i

/-! ### operations on values -/
/-- what an operation gives: r at v, the heap grown -/
def Ans (K : PySem.W.Frag) (C : List Addr) (M : Addr → Prop) (H : Hp) (r : D) (Q : VK) : Prop :=
  ∀ v H' M' os, Gr M H M' H' → RV K C M' H' v r os → os.Nodup → (∀ a ∈ os, M' a ∧ H a = none) → Q v H'
def OpOk (K : PySem.W.Frag) (r : R2) (g : Ms → D → D → Option D) : Prop :=
  ∀ C M H st v1 d1 o1 v2 d2 o2 res Q, CI K C M H st → RV K C M H v1 d1 o1 → RV K C M H v2 d2 o2 → g st d1 d2 = some res → Ans K C M H res Q → r v1 v2 H Q
def UnOk (K : PySem.W.Frag) (r : V → Hp → VK → Prop) (g : Ms → D → Option D) : Prop :=
  ∀ C M H st v1 d1 o1 res Q, CI K C M H st → RV K C M H v1 d1 o1 → g st d1 = some res → Ans K C M H res Q → r v1 H Q
def ClOk (K : PySem.W.Frag) (r : List V → Hp → VK → Prop) (g : Ms → List D → Option D) : Prop :=
  ∀ C M H st vs ds os res Q, CI K C M H st → RVs K C M H vs ds os → g st ds = some res → Ans K C M H res Q → r vs H Q
theorem Ans.val {K : PySem.W.Frag} {C : List Addr} {M : Addr → Prop} {H : Hp} {st : Ms} {r : D} {v : V} {Q : VK} (ci : CI K C M H st) (h : Ans K C M H r Q) (rv : RV K C M H v r []) : Q v H :=
  h v H M [] (.refl ci.tr) rv .nil fun a ha => nomatch ha
theorem ans_of {C2 O2 : List Addr} {M2 : Addr → Prop} {H2 : Hp} {env2 : Env} {st2 : Ms} {d : D} (fi : FI K C O M H σ env st) (g : Go False C O M H C2 O2 M2 H2) (fi2 : FI K C2 O2 M2 H2 σ env2 st2)
    (q : ∀ v H' C' O' M' os, Go False C O M H C' O' M' H' → FI K C' O' M' H' σ env2 st2 → RV K C' M' H' v d os → os.Nodup → (∀ a ∈ os, a ∉ C' ∧ a ∉ O' ∧ M' a ∧ (a ∈ O ∨ H a = none)) → Q v H') : Ans K C2 M2 H2 d Q :=
  fun v H3 M3 os gr rv nd hos => q v H3 C2 O2 M3 os (g.trans fi.ci.tr gr.go) (gr.fi fi2) rv nd fun a ha => ⟨fi2.noC (hos a ha).2, fi2.noO (hos a ha).2, (hos a ha).1, .inr (g.back a (hos a ha).2)⟩

def fBin (g : Ms → D → D → Option D) (f1 f2 : ES) : ES := fun env st => (f1 env st).bind fun x => (f2 x.2.1 x.2.2).bind fun y => (g y.2.2 x.1 y.1).map fun r => (r, y.2)
def fUn (g : Ms → D → Option D) (f1 : ES) : ES := fun env st => (f1 env st).bind fun x => (g x.2.2 x.1).map fun r => (r, x.2)
theorem te_bin {r : R2} {g : Ms → D → D → Option D} (hk : OpOk K r g) {σ : L2.St} {H : Hp} {Q : VK} (h : tE K (fBin g f1 f2) σ H Q) : tOp r (tP K f1) (tP K f2) σ H Q := by
  obtain ⟨C, O, M, env, st, d, env', st', fi, e, q⟩ := h
  unfold fBin at e
  rw [Option.bind_eq_some_iff] at e
  obtain ⟨⟨a, env1, st1⟩, e1, e⟩ := e
  rw [Option.bind_eq_some_iff] at e
  obtain ⟨⟨b, env2, st2⟩, e2, e⟩ := e
  rw [Option.map_eq_some_iff] at e
  obtain ⟨c, e3, e⟩ := e
  cases e
  refine ⟨C, O, M, env, st, a, env1, st1, fi, e1, fun v1 H1 C1 O1 M1 o1 g1 fi1 r1 n1 => ⟨C1, O1, M1, env1, st1, b, env', st', fi1, e2, fun v2 H2 C2 O2 M2 o2 g2 fi2 r2 n2 => ?_⟩⟩
  exact hk C2 M2 H2 st' v1 a o1 v2 b o2 d Q fi2.ci (g2.rv fi1.ci.mC r1 n1) r2 e3 (ans_of fi (g1.trans fi.ci.tr g2) fi2 q)
theorem te_un {r : V → Hp → VK → Prop} {g : Ms → D → Option D} (hk : UnOk K r g) {σ : L2.St} {H : Hp} {Q : VK} (h : tE K (fUn g f1) σ H Q) : tUn r (tP K f1) σ H Q := by
  obtain ⟨C, O, M, env, st, d, env', st', fi, e, q⟩ := h
  unfold fUn at e
  rw [Option.bind_eq_some_iff] at e
  obtain ⟨⟨a, env1, st1⟩, e1, e⟩ := e
  rw [Option.map_eq_some_iff] at e
  obtain ⟨c, e3, e⟩ := e
  cases e
  refine ⟨C, O, M, env, st, a, env', st', fi, e1, fun v1 H1 C1 O1 M1 o1 g1 fi1 r1 n1 => ?_⟩
  exact hk C1 M1 H1 _ v1 a o1 d Q fi1.ci r1 e3 (ans_of fi g1 fi1 q)
section
variable {a b c : Expr} {pos : Pos}
theorem se_bin {op : Operator} {r : R2} {g : Ms → D → D → Option D} (ho : OpR X (binaryOp op) r) (hk : OpOk X.K r g) (ha : SP X a f1) (hb : SP X b f2) : SE X (.BinOp a op b pos) (fBin g f1 f2) := pe_weak (pe_op ho ha hb) fun _ _ _ h => te_bin hk h
theorem se_un {op : UnaryOp} {r : V → Hp → VK → Prop} {g : Ms → D → Option D} (ho : UnR X (unaryOp op) r) (hk : UnOk X.K r g) (ha : SP X a f1) : SE X (.UnaryOp op a pos) (fUn g f1) := pe_weak (pe_un ho ha) fun _ _ _ h => te_un hk h
theorem se_cmp {op : CmpOp} {r : R2} {g : Ms → D → D → Option D} (ho : OpR X (compareOp op) r) (hk : OpOk X.K r g) (ha : SP X a f1) (hb : SP X b f2) (hm : behindInMarks op b = false) : SE X (.Compare a [op] [b] pos) (fBin g f1 f2) :=
  pe_weak (pe_cmpR ho ha hb hm) fun _ _ _ h => te_bin hk h
theorem se_ix {r : R2} {g : Ms → D → D → Option D} (ho : IxR X r) (hk : OpOk X.K r g) (ha : SP X a f1) (hb : SP X b f2) (hs : PlainIx b) : SE X (.Subscript a b pos) (fBin g f1 f2) := pe_weak (pe_ix ho ha hb hs) fun _ _ _ h => te_bin hk h
end
end
end Pv

/-! # PvC -/
set_option Elab.async false
set_option linter.all false
set_option maxHeartbeats 1000000
/-! arguments, displays, built-ins, tests -/
namespace Pv
open PySem L2
section
variable {X : Cx} {ex : Expr} {es : List Expr} {f f1 f2 f3 : ES} {fs : AS} {pos : Pos}
def aNil : AS := fun env st => some ([], env, st)
def aCons (f : ES) (fs : AS) : AS := fun env st => (f env st).bind fun x => (fs x.2.1 x.2.2).map fun y => (x.1 :: y.1, y.2)
theorem sps_nil : SPs X [] aNil := pa_weak pa_nil fun σ H Q ⟨C, O, M, env, st, d, env', st', fi, e, q⟩ => by
  cases e
  exact q [] H C O M [] .refl fi .nil fun a ha => nomatch ha
theorem szs_nil : SZs X [] aNil := pa_weak pa_nil fun σ H Q ⟨C, O, M, env, st, d, env', st', fi, e, q⟩ => by
  cases e
  exact q [] H C O M .refl fi .nil
theorem ses_nil : SEs X [] aNil := pa_weak pa_nil fun σ H Q ⟨C, O, M, env, st, d, env', st', fi, e, q⟩ => by
  cases e
  exact q [] H C O M [] .refl fi .nil .nil fun a ha => nomatch ha
theorem sps_cons (h : SP X ex f) (r : SPs X es fs) (hs : starEach (ex :: es) X.env = (false, eval ex X.env) :: starEach es X.env := by rfl) : SPs X (ex :: es) (aCons f fs) := pa_weak (pa_cons h r hs) fun σ H Q ⟨C, O, M, env, st, d, env', st', fi, e, q⟩ => by
  unfold aCons at e
  rw [Option.bind_eq_some_iff] at e
  obtain ⟨⟨a, env1, st1⟩, e1, e⟩ := e
  rw [Option.map_eq_some_iff] at e
  obtain ⟨⟨c, env2, st2⟩, e2, e⟩ := e
  cases e
  refine ⟨C, O, M, env, st, a, env1, st1, fi, e1, fun v1 H1 C1 O1 M1 o1 g1 fi1 r1 n1 => ⟨C1, O1, M1, env1, st1, c, env', st', fi1, e2, fun v2 H2 C2 O2 M2 o2 g2 fi2 r2 n2 => ?_⟩⟩
  refine q (v1 :: v2) H2 C2 O2 M2 (o1 ++ o2) (g1.trans fi.ci.tr g2) fi2 (.cons (g2.rv fi1.ci.mC r1 n1) r2) fun x hx => ?_
  rcases List.mem_append.mp hx with hx | hx
  · intro z
    rcases g2.newc0 x z with z | z
    · exact n1 x hx z
    · obtain ⟨o, w⟩ := r1.otr x hx
      rw [z] at w; cases w
  · exact n2 x hx
theorem szs_cons (h : SZ X ex f) (r : SZs X es fs) (hs : starEach (ex :: es) X.env = (false, eval ex X.env) :: starEach es X.env := by rfl) : SZs X (ex :: es) (aCons f fs) := pa_weak (pa_cons h r hs) fun σ H Q ⟨C, O, M, env, st, d, env', st', fi, e, q⟩ => by
  unfold aCons at e
  rw [Option.bind_eq_some_iff] at e
  obtain ⟨⟨a, env1, st1⟩, e1, e⟩ := e
  rw [Option.map_eq_some_iff] at e
  obtain ⟨⟨c, env2, st2⟩, e2, e⟩ := e
  cases e
  refine ⟨C, O, M, env, st, a, env1, st1, fi, e1, fun v1 H1 C1 O1 M1 g1 fi1 r1 => ⟨C1, O1, M1, env1, st1, c, env', st', fi1, e2, fun v2 H2 C2 O2 M2 g2 fi2 r2 => ?_⟩⟩
  exact q (v1 :: v2) H2 C2 O2 M2 (g1.trans fi.ci.tr g2) fi2 (.cons0 (g2.rv fi1.ci.mC r1 fun a ha => nomatch ha) r2)
theorem ses_cons (h : SE X ex f) (r : SEs X es fs) (hs : starEach (ex :: es) X.env = (false, eval ex X.env) :: starEach es X.env := by rfl) : SEs X (ex :: es) (aCons f fs) := pa_weak (pa_cons h r hs) fun σ H Q ⟨C, O, M, env, st, d, env', st', fi, e, q⟩ => by
  unfold aCons at e
  rw [Option.bind_eq_some_iff] at e
  obtain ⟨⟨a, env1, st1⟩, e1, e⟩ := e
  rw [Option.map_eq_some_iff] at e
  obtain ⟨⟨c, env2, st2⟩, e2, e⟩ := e
  cases e
  refine ⟨C, O, M, env, st, a, env1, st1, fi, e1, fun v1 H1 C1 O1 M1 o1 g1 fi1 r1 nd1 n1 => ⟨C1, O1, M1, env1, st1, c, env', st', fi1, e2, fun v2 H2 C2 O2 M2 o2 g2 fi2 r2 nd2 n2 => ?_⟩⟩
  have t1 : ∀ x ∈ o1, ¬ H1 x = none := fun x hx z => by
    obtain ⟨o, w⟩ := r1.otr x hx
    rw [z] at w; cases w
  refine q (v1 :: v2) H2 C2 O2 M2 (o1 ++ o2) (g1.trans fi.ci.tr g2) fi2 (.cons (g2.rv fi1.ci.mC r1 fun x hx => (n1 x hx).1) r2) ?_ fun x hx => ?_
  · rw [List.nodup_append]
    refine ⟨nd1, nd2, fun x hx y hy z => ?_⟩
    subst z
    rcases (n2 x hy).2.2.2 with w | w
    · exact (n1 x hx).2.1 w
    · exact t1 x hx w
  · rcases List.mem_append.mp hx with hx | hx
    · obtain ⟨m1, m2, m3, m4⟩ := n1 x hx
      refine ⟨fun z => ?_, fun z => ?_, g2.forn x m3 m2, m4⟩
      · rcases g2.newc0 x z with z | z
        · exact m1 z
        · exact t1 x hx z
      · rcases g2.ownd x z with z | z
        · exact m2 z
        · exact t1 x hx z
    · obtain ⟨m1, m2, m3, m4⟩ := n2 x hx
      refine ⟨m1, m2, m3, ?_⟩
      rcases m4 with z | z
      · exact g1.ownd x z
      · exact .inr (g1.back x z)

/-! ### displays -/
def BIG : Nat := 1000000
theorem big_size {n : Nat} (h : n ≤ BIG) : n ≤ sizeLine := Nat.le_trans h (by decide)
theorem big_lt {n : Nat} (h : n ≤ BIG) : n < sizeLine := Nat.lt_of_le_of_lt h (by decide)
def fTup (fs : AS) : ES := fun env st => (fs env st).bind fun x => if x.1.length ≤ BIG then some (.tup x.1, x.2) else none
def fLst (fs : AS) : ES := fun env st => (fs env st).bind fun x => if x.1.length ≤ BIG then some (.own x.1, x.2) else none
theorem se_tup {k : Nat} (h : SEs X es fs) : SE X (.Tuple es k pos) (fTup fs) := pe_weak (pe_tup h) fun σ H Q ⟨C, O, M, env, st, d, env', st', fi, e, q⟩ => by
  unfold fTup at e
  rw [Option.bind_eq_some_iff] at e
  obtain ⟨⟨a, env1, st1⟩, e1, e⟩ := e
  split at e
  · rename_i hb
    cases e
    refine ⟨C, O, M, env, st, a, env', st', fi, e1, fun vs H1 C1 O1 M1 o1 g1 fi1 r1 nd1 n1 => ⟨by rw [r1.len]; exact big_size hb, fun p hp => ?_⟩⟩
    have gr : Gr M1 H1 M1 (upd H1 p (.tup vs)) := .tup fi1.ci.tr hp
    exact q _ _ C1 O1 M1 o1 (g1.trans fi.ci.tr gr.go) (gr.fi fi1) (.tup (.inl ⟨upd_same, fun z => by
      obtain ⟨o, w⟩ := fi1.ci.tr p z
      rw [hp] at w; cases w⟩) (gr.rvs r1)) nd1 n1
  · cases e
theorem se_lst (h : SEs X es fs) : SE X (.List es pos) (fLst fs) := pe_weak (pe_lst h) fun σ H Q ⟨C, O, M, env, st, d, env', st', fi, e, q⟩ => by
  unfold fLst at e
  rw [Option.bind_eq_some_iff] at e
  obtain ⟨⟨a, env1, st1⟩, e1, e⟩ := e
  split at e
  · rename_i hb
    cases e
    refine ⟨C, O, M, env, st, a, env', st', fi, e1, fun vs H1 C1 O1 M1 o1 g1 fi1 r1 nd1 n1 => ⟨by rw [r1.len]; exact big_size hb, fun p hp => ?_⟩⟩
    have gr : Gr M1 H1 (fun a => M1 a ∨ a = p) (upd H1 p (.lst vs)) := .own fi1.ci.tr hp
    refine q _ _ C1 O1 _ (p :: o1) (g1.trans fi.ci.tr gr.go) (gr.fi fi1) (.own upd_same (gr.rvs r1)) ?_ fun x hx => ?_
    · refine List.nodup_cons.mpr ⟨fun z => ?_, nd1⟩
      obtain ⟨o, w⟩ := r1.otr p z
      rw [hp] at w; cases w
    · rcases List.mem_cons.mp hx with z | z
      · subst z
        exact ⟨fi1.noC hp, fi1.noO hp, .inr rfl, .inr (g1.back _ hp)⟩
      · obtain ⟨m1, m2, m3, m4⟩ := n1 x z
        exact ⟨m1, m2, .inl m3, m4⟩
  · cases e

/-! ### built-ins called -/
def fCl (g : Ms → List D → Option D) (fs : AS) : ES := fun env st => (fs env st).bind fun x => (g x.2.2 x.1).map fun r => (r, x.2)
theorem te_cl {K : PySem.W.Frag} {r : List V → Hp → VK → Prop} {g : Ms → List D → Option D} (hk : ClOk K r g) {σ : L2.St} {H : Hp} {Q : VK} (h : tE K (fCl g fs) σ H Q) : tCB r (tPs K fs) σ H Q := by
  obtain ⟨C, O, M, env, st, d, env', st', fi, e, q⟩ := h
  unfold fCl at e
  rw [Option.bind_eq_some_iff] at e
  obtain ⟨⟨a, env1, st1⟩, e1, e⟩ := e
  rw [Option.map_eq_some_iff] at e
  obtain ⟨c, e3, e⟩ := e
  cases e
  refine ⟨C, O, M, env, st, a, env', st', fi, e1, fun vs H1 C1 O1 M1 o1 g1 fi1 r1 n1 => ?_⟩
  exact hk C1 M1 H1 _ vs a o1 d Q fi1.ci r1 e3 (ans_of fi g1 fi1 q)
variable {x : Str} {p : Pos} {id T : String} {r : List V → Hp → VK → Prop} {g : Ms → List D → Option D}
theorem se_clB (hc : CallR X (.builtin id) r) (hk : ClOk X.K r g) (hg : Gl X x) (hm : X.mg x = none) (hv : bootBuiltins x = some (.builtin id)) (ha : SPs X (ex :: es) fs) (hn : x ≠ "__name__" := by decide) (hdb : (x == ("__debug__" : Str)) = false := by decide)
    (he : starEach (ex :: es) X.env = (false, eval ex X.env) :: starEach es X.env := by rfl) (hpl : (backTo pos (starEach es X.env)).any (·.1) = false := by rfl) : SE X (.Call (.Name x p) (ex :: es) [] pos) (fCl g fs) :=
  pe_weak (pe_callB hc hg hm hv ha hn hdb he hpl) fun _ _ _ h => te_cl hk h
theorem se_clT (hc : CallR X (.type T) r) (hk : ClOk X.K r g) (hg : Gl X x) (hm : X.mg x = none) (hv : bootBuiltins x = some (.type T)) (ha : SPs X (ex :: es) fs) (hn : x ≠ "__name__" := by decide) (hdb : (x == ("__debug__" : Str)) = false := by decide)
    (he : starEach (ex :: es) X.env = (false, eval ex X.env) :: starEach es X.env := by rfl) (hpl : (backTo pos (starEach es X.env)).any (·.1) = false := by rfl) : SE X (.Call (.Name x p) (ex :: es) [] pos) (fCl g fs) :=
  pe_weak (pe_callTy hc hg hm hv ha hn hdb he hpl) fun _ _ _ h => te_cl hk h
end
end Pv

/-! # PvD -/
set_option Elab.async false
set_option linter.all false
set_option maxHeartbeats 1000000
/-! tests, and or not, conditional expressions -/
namespace Pv
open PySem L2
section
variable {X : Cx} {a b c ex : Expr} {es rest : List Expr} {f f1 f2 f3 : ES} {t1 t2 : BS} {pos : Pos} {σ : L2.St} {H : Hp}
def fB (f : ES) : BS := fun env st => (f env st).bind fun x => match x.1 with
  | .bl b => some (b, x.2)
  | _ => none
theorem fB_some {f : ES} {env env' : Env} {st st' : Ms} {b : Bool} (h : fB f env st = some (b, env', st')) : f env st = some (.bl b, env', st') := by
  unfold fB at h
  rw [Option.bind_eq_some_iff] at h
  obtain ⟨⟨d, env1, st1⟩, e1, e⟩ := h
  dsimp only at e
  split at e
  · rename_i b0
    cases e
    exact e1
  · cases e
theorem rv_bl {K : PySem.W.Frag} {C : List Addr} {M : Addr → Prop} {v : V} {b : Bool} {os : List Addr} (r : RV K C M H v (.bl b) os) : v = .bl b ∧ os = [] := by
  cases r
  exact ⟨rfl, rfl⟩
theorem te_tt {K : PySem.W.Frag} {Q : Bool → Hp → Prop} (h : tT K (fB f) σ H Q) : tE K f σ H fun x H' => ∃ k, x = .bl k ∧ Q k H' := by
  obtain ⟨C, O, M, env, st, d, env', st', fi, e, q⟩ := h
  refine ⟨C, O, M, env, st, .bl d, env', st', fi, fB_some e, fun v H' C' O' M' os g fi' r _ _ => ?_⟩
  obtain ⟨rfl, _⟩ := rv_bl r
  exact ⟨d, rfl, q H' C' O' M' g fi'⟩
theorem tp_tt {K : PySem.W.Frag} {Q : Bool → Hp → Prop} (h : tT K (fB f) σ H Q) : tP K f σ H fun x H' => ∃ k, x = .bl k ∧ Q k H' := by
  obtain ⟨C, O, M, env, st, d, env', st', fi, e, q⟩ := h
  refine ⟨C, O, M, env, st, .bl d, env', st', fi, fB_some e, fun v H' C' O' M' os g fi' r _ => ?_⟩
  obtain ⟨rfl, _⟩ := rv_bl r
  exact ⟨d, rfl, q H' C' O' M' g fi'⟩
theorem st_val (h : SP X ex f) (he : ∀ whole, isTrue ex X.env whole = (do let v ← whole; standAt ex.pos; holding [v] (truthy v)) := by intro _; rfl) : ST X ex (fB f) := pt_weak (pt_val h he) fun _ _ _ q => tp_tt q
theorem st_cmp {op : CmpOp} {r : R2} {g : Ms → D → D → Option D} (ho : OpR X (compareOp op) r) (hk : OpOk X.K r g) (ha : SP X a f1) (hb : SP X b f2) (hm : behindInMarks op b = false) : ST X (.Compare a [op] [b] pos) (fB (fBin g f1 f2)) :=
  pt_weak (pt_cmpR ho ha hb hm) fun _ _ _ h => te_bin hk (te_tt h)
/-- a < b < c -/
def fChain (g g' : Ms → D → D → Option D) (f1 f2 f3 : ES) : ES := fun env st => (f1 env st).bind fun x => (f2 x.2.1 x.2.2).bind fun y => (g y.2.2 x.1 y.1).bind fun z => match z with
  | .bl true => (f3 y.2.1 y.2.2).bind fun w => (g' w.2.2 y.1 w.1).map fun r => (r, w.2)
  | .bl false => some (.bl false, y.2)
  | _ => none
theorem te_chain {K : PySem.W.Frag} {r r' : R2} {g g' : Ms → D → D → Option D} (hk : OpOk K r g) (hk' : OpOk K r' g') {Q : VK} (h : tE K (fChain g g' f1 f2 f3) σ H Q) : tChain r r' (tP K f1) (tP K f2) (tP K f3) σ H Q := by
  obtain ⟨C, O, M, env, st, d, env', st', fi, e, q⟩ := h
  unfold fChain at e
  rw [Option.bind_eq_some_iff] at e
  obtain ⟨⟨a, env1, st1⟩, e1, e⟩ := e
  rw [Option.bind_eq_some_iff] at e
  obtain ⟨⟨b, env2, st2⟩, e2, e⟩ := e
  rw [Option.bind_eq_some_iff] at e
  obtain ⟨z, e3, e⟩ := e
  dsimp only at e e3 e2
  refine ⟨C, O, M, env, st, a, env1, st1, fi, e1, fun v1 H1 C1 O1 M1 o1 g1 fi1 r1 n1 => ⟨C1, O1, M1, env1, st1, b, env2, st2, fi1, e2, fun v2 H2 C2 O2 M2 o2 g2 fi2 r2 n2 => ?_⟩⟩
  have g12 := g1.trans fi.ci.tr g2
  refine hk C2 M2 H2 st2 v1 a o1 v2 b o2 z _ fi2.ci (g2.rv fi1.ci.mC r1 n1) r2 e3 fun v H3 M3 os gr rv nd hos => ?_
  split at e
  · obtain ⟨rfl, rfl⟩ := rv_bl rv
    refine ⟨true, rfl, ?_⟩
    rw [if_pos rfl]
    rw [Option.bind_eq_some_iff] at e
    obtain ⟨⟨c, env3, st3⟩, e4, e⟩ := e
    rw [Option.map_eq_some_iff] at e
    obtain ⟨u, e5, e⟩ := e
    cases e
    refine ⟨C2, O2, M3, env2, st2, c, env', st', gr.fi fi2, e4, fun v3 H4 C4 O4 M4 o3 g4 fi4 r4 n4 => ?_⟩
    exact hk' C4 M4 H4 _ v2 b o2 v3 c o3 d Q fi4.ci (g4.rv (gr.fi fi2).ci.mC (gr.rv r2) n2) r4 e5 (ans_of fi ((g12.trans fi.ci.tr gr.go).trans fi.ci.tr g4) fi4 q)
  · obtain ⟨rfl, rfl⟩ := rv_bl rv
    refine ⟨false, rfl, ?_⟩
    rw [if_neg (by decide)]
    cases e
    exact q (.bl false) H3 C2 O2 M3 [] (g12.trans fi.ci.tr gr.go) (gr.fi fi2) (.bl false) .nil fun a ha => nomatch ha
  · cases e
theorem se_chain {op op' : CmpOp} {r r' : R2} {g g' : Ms → D → D → Option D} (ho : OpR X (compareOp op) r) (hk : OpOk X.K r g) (ho' : OpR X (compareOp op') r') (hk' : OpOk X.K r' g') (ha : SP X a f1) (hb : SP X b f2) (hc : SP X c f3)
    (hm : lastMarks [op, op'] [b, c] = false := by with_unfolding_all rfl) : SE X (.Compare a [op, op'] [b, c] pos) (fChain g g' f1 f2 f3) := pe_weak (pe_chain ho ho' ha hb hc hm) fun _ _ _ h => te_chain hk hk' h
theorem st_chain {op op' : CmpOp} {r r' : R2} {g g' : Ms → D → D → Option D} (ho : OpR X (compareOp op) r) (hk : OpOk X.K r g) (ho' : OpR X (compareOp op') r') (hk' : OpOk X.K r' g') (ha : SP X a f1) (hb : SP X b f2) (hc : SP X c f3)
    (hm : lastMarks [op, op'] [b, c] = false := by with_unfolding_all rfl) : ST X (.Compare a [op, op'] [b, c] pos) (fB (fChain g g' f1 f2 f3)) := pt_weak (pt_chain ho ho' ha hb hc hm) fun _ _ _ h => te_chain hk hk' (te_tt h)
/-! ### and, or, not: tests -/
def bAnd (t u : BS) : BS := fun env st => (t env st).bind fun x => if x.1 = true then u x.2.1 x.2.2 else some (false, x.2)
def bOr (t u : BS) : BS := fun env st => (t env st).bind fun x => if x.1 = true then some (true, x.2) else u x.2.1 x.2.2
def bNot (t : BS) : BS := fun env st => (t env st).map fun x => (!x.1, x.2)
theorem SW.st (h : SW X ex t1) : ST X ex t1 := h.pt
theorem sw_and1 (h : ST X a t1) : SW X (.BoolOp .And [a] pos) t1 := pw_and1 h
theorem sw_or1 (h : ST X a t1) : SW X (.BoolOp .Or [a] pos) t1 := pw_or1 h
theorem tt_next {K : PySem.W.Frag} {C O C1 O1 : List Addr} {M M1 : Addr → Prop} {H1 : Hp} {env env1 env' : Env} {st st1 st' : Ms} {d : Bool} {Q : Bool → Hp → Prop} (fi : FI K C O M H σ env st) (g1 : Go False C O M H C1 O1 M1 H1) (fi1 : FI K C1 O1 M1 H1 σ env1 st1)
    (e : t2 env1 st1 = some (d, env', st')) (q : ∀ H' C' O' M', Go False C O M H C' O' M' H' → FI K C' O' M' H' σ env' st' → Q d H') : tT K t2 σ H1 Q :=
  ⟨C1, O1, M1, env1, st1, d, env', st', fi1, e, fun H2 C2 O2 M2 g2 fi2 => q H2 C2 O2 M2 (g1.trans fi.ci.tr g2) fi2⟩
theorem sw_and (ha : ST X a t1) (hb : SW X (.BoolOp .And (b :: rest) pos) t2) : SW X (.BoolOp .And (a :: b :: rest) pos) (bAnd t1 t2) := pw_weak (pw_and ha hb) fun σ H Q ⟨C, O, M, env, st, d, env', st', fi, e, q⟩ => by
  unfold bAnd at e
  rw [Option.bind_eq_some_iff] at e
  obtain ⟨⟨a, env1, st1⟩, e1, e⟩ := e
  refine ⟨C, O, M, env, st, a, env1, st1, fi, e1, fun H1 C1 O1 M1 g1 fi1 => ?_⟩
  dsimp only at e
  cases a with
  | true =>
    rw [if_pos rfl] at e ⊢
    exact tt_next fi g1 fi1 e q
  | false =>
    rw [if_neg (by decide)] at e ⊢
    cases e
    exact q H1 C1 O1 M1 g1 fi1
theorem sw_or (ha : ST X a t1) (hb : SW X (.BoolOp .Or (b :: rest) pos) t2) : SW X (.BoolOp .Or (a :: b :: rest) pos) (bOr t1 t2) := pw_weak (pw_or ha hb) fun σ H Q ⟨C, O, M, env, st, d, env', st', fi, e, q⟩ => by
  unfold bOr at e
  rw [Option.bind_eq_some_iff] at e
  obtain ⟨⟨a, env1, st1⟩, e1, e⟩ := e
  refine ⟨C, O, M, env, st, a, env1, st1, fi, e1, fun H1 C1 O1 M1 g1 fi1 => ?_⟩
  dsimp only at e
  cases a with
  | true =>
    rw [if_pos rfl] at e ⊢
    cases e
    exact q H1 C1 O1 M1 g1 fi1
  | false =>
    rw [if_neg (by decide)] at e ⊢
    exact tt_next fi g1 fi1 e q
theorem st_not (ha : ST X a t1) : ST X (.UnaryOp .Not a pos) (bNot t1) := pt_weak (pt_not ha) fun σ H Q ⟨C, O, M, env, st, d, env', st', fi, e, q⟩ => by
  unfold bNot at e
  rw [Option.map_eq_some_iff] at e
  obtain ⟨⟨a, env1, st1⟩, e1, e⟩ := e
  cases e
  exact ⟨C, O, M, env, st, a, env', st', fi, e1, fun H1 C1 O1 M1 g1 fi1 => q H1 C1 O1 M1 g1 fi1⟩
/-! ### .. as values -/
def fAnd (f1 f2 : ES) : ES := fun env st => (f1 env st).bind fun x => match x.1 with
  | .bl true => f2 x.2.1 x.2.2
  | .bl false => some (.bl false, x.2)
  | _ => none
def fOr (f1 f2 : ES) : ES := fun env st => (f1 env st).bind fun x => match x.1 with
  | .bl true => some (.bl true, x.2)
  | .bl false => f2 x.2.1 x.2.2
  | _ => none
def fNot (f1 : ES) : ES := fun env st => (f1 env st).bind fun x => match x.1 with
  | .bl b => some (.bl (!b), x.2)
  | _ => none
theorem te_next {K : PySem.W.Frag} {C O C1 O1 : List Addr} {M M1 : Addr → Prop} {H1 : Hp} {env env1 env' : Env} {st st1 st' : Ms} {d : D} {Q : VK} (fi : FI K C O M H σ env st) (g1 : Go False C O M H C1 O1 M1 H1) (fi1 : FI K C1 O1 M1 H1 σ env1 st1)
    (e : f2 env1 st1 = some (d, env', st')) (q : ∀ v H' C' O' M' os, Go False C O M H C' O' M' H' → FI K C' O' M' H' σ env' st' → RV K C' M' H' v d os → os.Nodup → (∀ a ∈ os, a ∉ C' ∧ a ∉ O' ∧ M' a ∧ (a ∈ O ∨ H a = none)) → Q v H') : tE K f2 σ H1 Q :=
  ⟨C1, O1, M1, env1, st1, d, env', st', fi1, e, fun v H2 C2 O2 M2 os g2 fi2 r nd n => q v H2 C2 O2 M2 os (g1.trans fi.ci.tr g2) fi2 r nd fun a ha => by
    obtain ⟨m1, m2, m3, m4⟩ := n a ha
    refine ⟨m1, m2, m3, ?_⟩
    rcases m4 with z | z
    · exact g1.ownd a z
    · exact .inr (g1.back a z)⟩
theorem se_one {op : BoolOp} (h : SE X a f1) : SE X (.BoolOp op [a] pos) f1 := pe_one h
theorem se_and (ha : SP X a f1) (hb : SE X (.BoolOp .And (b :: rest) pos) f2) : SE X (.BoolOp .And (a :: b :: rest) pos) (fAnd f1 f2) := pe_weak (pe_and ha hb) fun σ H Q ⟨C, O, M, env, st, d, env', st', fi, e, q⟩ => by
  unfold fAnd at e
  rw [Option.bind_eq_some_iff] at e
  obtain ⟨⟨a, env1, st1⟩, e1, e⟩ := e
  refine ⟨C, O, M, env, st, a, env1, st1, fi, e1, fun v1 H1 C1 O1 M1 o1 g1 fi1 r1 n1 => ?_⟩
  dsimp only at e
  split at e
  · obtain ⟨rfl, rfl⟩ := rv_bl r1
    refine ⟨true, rfl, ?_⟩
    rw [if_pos rfl]
    exact te_next fi g1 fi1 e q
  · obtain ⟨rfl, rfl⟩ := rv_bl r1
    refine ⟨false, rfl, ?_⟩
    rw [if_neg (by decide)]
    cases e
    exact q (.bl false) H1 C1 O1 M1 [] g1 fi1 (.bl false) .nil fun a ha => nomatch ha
  · cases e
theorem se_or (ha : SP X a f1) (hb : SE X (.BoolOp .Or (b :: rest) pos) f2) : SE X (.BoolOp .Or (a :: b :: rest) pos) (fOr f1 f2) := pe_weak (pe_or ha hb) fun σ H Q ⟨C, O, M, env, st, d, env', st', fi, e, q⟩ => by
  unfold fOr at e
  rw [Option.bind_eq_some_iff] at e
  obtain ⟨⟨a, env1, st1⟩, e1, e⟩ := e
  refine ⟨C, O, M, env, st, a, env1, st1, fi, e1, fun v1 H1 C1 O1 M1 o1 g1 fi1 r1 n1 => ?_⟩
  dsimp only at e
  split at e
  · obtain ⟨rfl, rfl⟩ := rv_bl r1
    refine ⟨true, rfl, ?_⟩
    rw [if_pos rfl]
    cases e
    exact q (.bl true) H1 C1 O1 M1 [] g1 fi1 (.bl true) .nil fun a ha => nomatch ha
  · obtain ⟨rfl, rfl⟩ := rv_bl r1
    refine ⟨false, rfl, ?_⟩
    rw [if_neg (by decide)]
    exact te_next fi g1 fi1 e q
  · cases e
theorem se_not (ha : SP X a f1) : SE X (.UnaryOp .Not a pos) (fNot f1) := pe_weak (pe_not ha) fun σ H Q ⟨C, O, M, env, st, d, env', st', fi, e, q⟩ => by
  unfold fNot at e
  rw [Option.bind_eq_some_iff] at e
  obtain ⟨⟨a, env1, st1⟩, e1, e⟩ := e
  refine ⟨C, O, M, env, st, a, env1, st1, fi, e1, fun v1 H1 C1 O1 M1 o1 g1 fi1 r1 n1 => ?_⟩
  dsimp only at e
  split at e
  · rename_i b
    cases e
    obtain ⟨rfl, rfl⟩ := rv_bl r1
    exact ⟨b, rfl, q (.bl (!b)) H1 C1 O1 M1 [] g1 fi1 (.bl _) .nil fun a ha => nomatch ha⟩
  · cases e
def fIf (t : BS) (f1 f2 : ES) : ES := fun env st => (t env st).bind fun x => if x.1 = true then f1 x.2.1 x.2.2 else f2 x.2.1 x.2.2
theorem se_if (hc : ST X c t1) (ha : SE X a f1) (hb : SE X b f2) : SE X (.IfExp c a b pos) (fIf t1 f1 f2) := pe_weak (pe_ifExp hc ha hb) fun σ H Q ⟨C, O, M, env, st, d, env', st', fi, e, q⟩ => by
  unfold fIf at e
  rw [Option.bind_eq_some_iff] at e
  obtain ⟨⟨a, env1, st1⟩, e1, e⟩ := e
  refine ⟨C, O, M, env, st, a, env1, st1, fi, e1, fun H1 C1 O1 M1 g1 fi1 => ?_⟩
  dsimp only at e
  cases a with
  | true =>
    rw [if_pos rfl] at e ⊢
    exact te_next fi g1 fi1 e q
  | false =>
    rw [if_neg (by decide)] at e ⊢
    exact te_next fi g1 fi1 e q
end
end Pv

/-! # PvE -/
set_option Elab.async false
set_option linter.all false
set_option maxHeartbeats 1000000
/-! statements -/
namespace Pv
open PySem L2
inductive Fl where
  | nx (env : Env) (st : Ms) | rt (d : D) (st : Ms) | bk (env : Env) (st : Ms) | ct (env : Env) (st : Ms)
abbrev SS := Env → Ms → Option Fl
def FlOk (K : PySem.W.Frag) (C O : List Addr) (M : Addr → Prop) (H : Hp) (N : Ends) : Fl → Prop
  | .nx env' st' => ∀ σ' H' C' O' M', Go True C O M H C' O' M' H' → FI K C' O' M' H' σ' env' st' → N.nx σ' H'
  | .bk env' st' => ∀ σ' H' C' O' M', Go True C O M H C' O' M' H' → FI K C' O' M' H' σ' env' st' → N.bk σ' H'
  | .ct env' st' => ∀ σ' H' C' O' M', Go True C O M H C' O' M' H' → FI K C' O' M' H' σ' env' st' → N.ct σ' H'
  | .rt d st' => ∀ v H' C' O' M' os, Go True C O M H C' O' M' H' → CI K C' M' H' st' → RV K C' M' H' v d os → os.Nodup → (∀ a ∈ os, a ∉ C' ∧ M' a ∧ (a ∈ O ∨ H a = none)) → N.rt v H'
def tS (K : PySem.W.Frag) (f : SS) : TS := fun N σ H => ∃ C O M env st r, FI K C O M H σ env st ∧ f env st = some r ∧ FlOk K C O M H N r
def SS1 (X : Cx) (s : Stmt) (f : SS) : Prop := PS X s (tS X.K f)
def SSs (X : Cx) (s : List Stmt) (f : SS) : Prop := PSs X s (tS X.K f)
section
variable {X : Cx} {K : PySem.W.Frag} {C C' O O' : List Addr} {M M' : Addr → Prop} {H H' : Hp} {st st' : Ms} {σ σ' : L2.St} {env env' : Env} {N : Ends} {r : Fl} {s : Stmt} {ss : List Stmt} {f g : SS} {fe : ES} {e c : Expr} {t : BS} {pos : Pos}
theorem FlOk.from (fi : FI K C O M H σ env st) (g1 : Go True C O M H C' O' M' H') (h : FlOk K C O M H N r) : FlOk K C' O' M' H' N r := by
  cases r with
  | nx env' st' => exact fun σ2 H2 C2 O2 M2 g2 fi2 => h σ2 H2 C2 O2 M2 (g1.trans fi.ci.tr g2) fi2
  | bk env' st' => exact fun σ2 H2 C2 O2 M2 g2 fi2 => h σ2 H2 C2 O2 M2 (g1.trans fi.ci.tr g2) fi2
  | ct env' st' => exact fun σ2 H2 C2 O2 M2 g2 fi2 => h σ2 H2 C2 O2 M2 (g1.trans fi.ci.tr g2) fi2
  | rt d st' =>
    refine fun v H2 C2 O2 M2 os g2 ci2 rv nd n => h v H2 C2 O2 M2 os (g1.trans fi.ci.tr g2) ci2 rv nd fun a ha => ?_
    obtain ⟨m1, m2, m3⟩ := n a ha
    refine ⟨m1, m2, ?_⟩
    rcases m3 with z | z
    · exact g1.ownd a z
    · exact .inr (g1.back a z)
def sNil : SS := fun env st => some (.nx env st)
def sSeq (f g : SS) : SS := fun env st => (f env st).bind fun r => match r with
  | .nx env st => g env st
  | r => some r
theorem ss_nil : SSs X [] sNil := pss_weak pss_nil fun N σ H ⟨C, O, M, env, st, r, fi, e, q⟩ => by
  cases e
  exact q σ H C O M .refl fi
theorem ss_cons (h1 : SS1 X s f) (h2 : SSs X ss g) : SSs X (s :: ss) (sSeq f g) := pss_weak (pss_cons h1 h2) fun N σ H ⟨C, O, M, env, st, r, fi, e, q⟩ => by
  unfold sSeq at e
  rw [Option.bind_eq_some_iff] at e
  obtain ⟨r1, e1, e⟩ := e
  refine ⟨C, O, M, env, st, r1, fi, e1, ?_⟩
  cases r1 with
  | nx env1 st1 => exact fun σ1 H1 C1 O1 M1 g1 fi1 => ⟨C1, O1, M1, env1, st1, r, fi1, e, q.from fi g1⟩
  | bk env1 st1 =>
    cases e
    exact q
  | ct env1 st1 =>
    cases e
    exact q
  | rt d st1 =>
    cases e
    exact q
theorem ss_one (h1 : SS1 X s f) : SSs X [s] f := pss_one h1
def sPass : SS := fun env st => some (.nx env st)
theorem s1_pass : SS1 X (.Pass pos) sPass := ps_weak ps_pass fun N σ H ⟨C, O, M, env, st, r, fi, e, q⟩ => by
  cases e
  exact q σ H C O M .refl fi
theorem s1_break : SS1 X (.Break pos) (fun env st => some (.bk env st)) := ps_weak ps_break fun N σ H ⟨C, O, M, env, st, r, fi, e, q⟩ => by
  cases e
  exact q σ H C O M .refl fi
theorem s1_cont : SS1 X (.Continue pos) (fun env st => some (.ct env st)) := ps_weak ps_continue fun N σ H ⟨C, O, M, env, st, r, fi, e, q⟩ => by
  cases e
  exact q σ H C O M .refl fi
/-- what is never reached -/
def sNo : SS := fun _ _ => none
theorem s1_no : SS1 X s sNo := ps_weak ps_never fun N σ H ⟨C, O, M, env, st, r, fi, e, q⟩ => by cases e
theorem ss_no : SSs X ss sNo := pss_weak pss_never fun N σ H ⟨C, O, M, env, st, r, fi, e, q⟩ => by cases e
def sDrop (f : ES) : SS := fun env st => (f env st).map fun x => .nx x.2.1 x.2.2
theorem s1_expr (h : SP X e fe) (hs : swapsWith e none pos.line X.env = pure false := by rfl) : SS1 X (.Expr e pos) (sDrop fe) := ps_weak (ps_expr h hs) fun N σ H ⟨C, O, M, env, st, r, fi, e, q⟩ => by
  unfold sDrop at e
  rw [Option.map_eq_some_iff] at e
  obtain ⟨⟨a, env1, st1⟩, e1, e⟩ := e
  cases e
  exact ⟨C, O, M, env, st, a, env1, st1, fi, e1, fun v H1 C1 O1 M1 o1 g1 fi1 r1 n1 => q σ H1 C1 O1 M1 g1.weak fi1⟩
def sRet (f : ES) : SS := fun env st => (f env st).map fun x => .rt x.1 x.2.2
theorem s1_ret (h : SE X e fe) : SS1 X (.Return (some e) pos) (sRet fe) := ps_weak (ps_ret h) fun N σ H ⟨C, O, M, env, st, r, fi, e, q⟩ => by
  unfold sRet at e
  rw [Option.map_eq_some_iff] at e
  obtain ⟨⟨a, env1, st1⟩, e1, e⟩ := e
  cases e
  exact ⟨C, O, M, env, st, a, env1, st1, fi, e1, fun v H1 C1 O1 M1 o1 g1 fi1 r1 nd n1 => q v H1 C1 O1 M1 o1 g1.weak fi1.ci r1 nd fun a ha => ⟨(n1 a ha).1, (n1 a ha).2.2⟩⟩
def sIf (t : BS) (f g : SS) : SS := fun env st => (t env st).bind fun x => if x.1 = true then f x.2.1 x.2.2 else g x.2.1 x.2.2
theorem s1_if {a b : List Stmt} (hc : ST X c t) (ha : SSs X a f) (hb : SSs X b g) : SS1 X (.If c a b pos) (sIf t f g) := ps_weak (ps_if hc ha hb) fun N σ H ⟨C, O, M, env, st, r, fi, e, q⟩ => by
  unfold sIf at e
  rw [Option.bind_eq_some_iff] at e
  obtain ⟨⟨a, env1, st1⟩, e1, e⟩ := e
  refine ⟨C, O, M, env, st, a, env1, st1, fi, e1, fun H1 C1 O1 M1 g1 fi1 => ?_⟩
  dsimp only at e
  cases a with
  | true =>
    rw [if_pos rfl] at e ⊢
    exact ⟨C1, O1, M1, env1, st1, r, fi1, e, q.from fi g1.weak⟩
  | false =>
    rw [if_neg (by decide)] at e ⊢
    exact ⟨C1, O1, M1, env1, st1, r, fi1, e, q.from fi g1.weak⟩

/-! ### stores to names -/
theorem FI.set {i : Nat} {v : V} {d : D} {os : List Addr} (fi : FI K C O M H σ env st) (hi : i < env.length) (r : RV K C M H v d os) (nd : os.Nodup) (n : ∀ a ∈ os, a ∉ C ∧ a ∉ O ∧ M a) :
    ∃ O', FI K C O' M H (σ.set i (some v)) (env.set i (some d)) st ∧ ∀ a ∈ O', a ∈ O ∨ a ∈ os := by
  obtain ⟨O1, o0, O2, eo, z⟩ := fi.sl.set hi r
  have od := fi.od
  rw [eo] at od
  obtain ⟨n1, n2, n3⟩ := nd3 od
  have sub : ∀ a ∈ O1 ++ O2, a ∈ O := fun a ha => by
    rw [eo]
    exact sub3 ha
  have mem : ∀ a ∈ O1 ++ (os ++ O2), a ∈ O1 ++ O2 ∨ a ∈ os := fun a ha => by
    rcases List.mem_append.mp ha with h | h
    · exact .inl (List.mem_append_left _ h)
    · rcases List.mem_append.mp h with h | h
      · exact .inr h
      · exact .inl (List.mem_append_right _ h)
  refine ⟨O1 ++ (os ++ O2), ⟨fi.ci, z, ?_, fun a ha => ?_, fun a ha => ?_⟩, fun a ha => (mem a ha).imp (sub a) id⟩
  · rw [List.nodup_append] at n1 ⊢
    obtain ⟨m1, m2, m3⟩ := n1
    refine ⟨m1, ?_, fun a ha b hb z => ?_⟩
    · rw [List.nodup_append]
      exact ⟨nd, m2, fun a ha b hb z => (n a ha).2.1 (sub a (List.mem_append_right _ (z ▸ hb)))⟩
    · subst z
      rcases List.mem_append.mp hb with h | h
      · exact (n a h).2.1 (sub a (List.mem_append_left _ ha))
      · exact m3 a ha a h rfl
  · rcases mem a ha with h | h
    · exact fi.oc a (sub a h)
    · exact (n a h).1
  · rcases mem a ha with h | h
    · exact fi.mO a (sub a h)
    · exact (n a h).2.2
def sAsg (i : Nat) (f : ES) : SS := fun env st => (f env st).bind fun x => if i < x.2.1.length then some (.nx (x.2.1.set i (some x.1)) x.2.2) else none
theorem ts_asg {i : Nat} {te : TE} (i1 : ∀ σ H Q, tE K fe σ H Q → te σ H Q) (h : tS K (sAsg i fe) N σ H) : tAsg te (gName i) N σ H := by
  obtain ⟨C, O, M, env, st, r, fi, e, q⟩ := h
  unfold sAsg at e
  rw [Option.bind_eq_some_iff] at e
  obtain ⟨⟨a, env1, st1⟩, e1, e⟩ := e
  split at e
  · rename_i hi
    cases e
    refine i1 σ H _ ⟨C, O, M, env, st, a, env1, st1, fi, e1, fun v H1 C1 O1 M1 o1 g1 fi1 r1 nd n1 => ?_⟩
    obtain ⟨O2, fi2, m2⟩ := fi1.set hi r1 nd fun a ha => ⟨(n1 a ha).1, (n1 a ha).2.1, (n1 a ha).2.2.1⟩
    refine q (σ.set i (some v)) H1 C1 O2 M1 ⟨fun a o h1 _ h3 => g1.keep a o h1 (fun z => z.elim) h3, g1.pre, g1.weak.newc, g1.fresh, g1.forn, fun a ha => ?_, g1.back⟩ fi2
    rcases m2 a ha with z | z
    · exact g1.ownd a z
    · exact (n1 a z).2.2.2
  · cases e
theorem s1_asg {i : Nat} {x : Str} {pos' : Pos} (hN : X.N.Nodup) (hi : X.N[i]? = some x) (hx : Loc X.env.scope x) (he : SE X e fe) (hs : swapsWith e (some (.Name x pos')) pos.line X.env = pure false := by rfl)
    (hf : X.fn x = true ∨ X.env.scope.names.lookup x = some .local := by first | exact .inl rfl | exact .inr rfl | assumption) : SS1 X (.Assign [.Name x pos'] e pos) (sAsg i fe) := ps_weak (ps_set hN hi hx he hs hf) fun _ _ _ h => ts_asg (fun _ _ _ q => q) h
end
end Pv

/-! # PvF -/
set_option Elab.async false
set_option linter.all false
set_option maxHeartbeats 1000000
/-! lists that are changed in place -/
namespace Pv
open PySem L2
mutual
def D.nc : D → Bool
  | .cell _ => false
  | .own l => D.ncs l
  | .tup l => D.ncs l
  | .lst l => D.ncs l
  | .non => true | .bl _ => true | .int _ => true | .str _ => true | .scr _ => true
def D.ncs : List D → Bool
  | [] => true
  | d :: l => d.nc && D.ncs l
end
section
variable {X : Cx} {K : PySem.W.Frag} {C C' O O' : List Addr} {M M' : Addr → Prop} {H H' : Hp} {st st' : Ms} {σ σ' : L2.St} {env env' : Env} {N : Ends} {f g : SS} {fe fi2 : ES} {e c : Expr} {pos : Pos}
mutual
theorem RV.free : ∀ {v : V} {d : D} {os : List Addr}, RV K C M H v d os → d.nc = true → RV K C' M H v d os
  | _, _, _, .non, _ => .non
  | _, _, _, .bl b, _ => .bl b
  | _, _, _, .int i, _ => .int i
  | _, _, _, .str s, _ => .str s
  | _, _, _, .tup h r, q => .tup h (r.free (by simpa only [D.nc] using q))
  | _, _, _, .lst h r, q => .lst h (r.free (by simpa only [D.nc] using q))
  | _, _, _, .own h r, q => .own h (r.free (by simpa only [D.nc] using q))
  | _, _, _, .cell h, q => by simp only [D.nc] at q; cases q
  | _, _, _, .scr h, _ => .scr h
theorem RVs.free : ∀ {vs : List V} {ds : List D} {os : List Addr}, RVs K C M H vs ds os → D.ncs ds = true → RVs K C' M H vs ds os
  | _, _, _, .nil, _ => .nil
  | _, _, _, .cons h r, q => by
    simp only [D.ncs, Bool.and_eq_true] at q
    exact .cons (h.free q.1) (r.free q.2)
end
/-- a list of this frame's own is written -/
theorem CI.wr (ci : CI K C M H st) {p : Addr} {xs : List V} (hp : p ∉ C) (hm : M p) : CI K C M (upd H p (.lst xs)) st :=
  ⟨ci.len, fun i ds q e1 e2 => by
    obtain ⟨ys, h, r⟩ := ci.at_ i ds q e1 e2
    have nq : q ≠ p := fun z => hp (z ▸ List.mem_of_getElem? e2)
    exact ⟨ys, by rw [upd_ne nq]; exact h, r.mono (fun _ _ e => e) (fun a o h e => by rw [upd_ne (fun z => h (by rw [z]; exact hm))]; exact e) (fun _ _ h _ => h) fun _ z => nomatch z⟩, ci.nd, ci.mC, fun a h => by
    by_cases z : a = p
    · exact ⟨_, by rw [z]; exact upd_same⟩
    · obtain ⟨o, w⟩ := ci.tr a h
      exact ⟨o, by rw [upd_ne z]; exact w⟩⟩
theorem FI.wr (fi : FI K C O M H σ env st) {i : Nat} {d : D} (e : env[i]? = some (some d)) :
    ∃ v o, σ[i]? = some (some v) ∧ RV K C M H v d o ∧ (∀ a ∈ o, a ∈ O) ∧ o.Nodup ∧ ∀ (p : Addr) (xs : List V) (d' : D) (o' : List Addr), p ∈ o → (∀ a ∈ o', a ∈ o ∨ (a ∉ C ∧ a ∉ O ∧ M a)) → o'.Nodup → RV K C M (upd H p (.lst xs)) v d' o' →
      ∃ O', FI K C O' M (upd H p (.lst xs)) σ (env.set i (some d')) st ∧ ∀ a ∈ O', a ∈ O ∨ a ∈ o' := by
  obtain ⟨v, o, e1, r, O1, O2, eo, z⟩ := fi.sl.get e
  have od := fi.od
  rw [eo] at od
  obtain ⟨n1, n2, n3⟩ := nd3 od
  have sub : ∀ a ∈ O1 ++ O2, a ∈ O := fun a ha => by
    rw [eo]
    exact sub3 ha
  have mid : ∀ a ∈ o, a ∈ O := fun a ha => by
    rw [eo]
    exact List.mem_append_right _ (List.mem_append_left _ ha)
  refine ⟨v, o, e1, r, mid, n2, fun p xs d' o' hp ho' nd rv => ⟨O1 ++ (o' ++ O2), ?_, ?_⟩⟩
  · have mp : M p := fi.mO p (mid p hp)
    have z2 := (z C M (upd H p (.lst xs)) (fun _ _ e => e) (fun a o h e => by rw [upd_ne (fun w => h (by rw [w]; exact mp))]; exact e) (fun _ _ h _ => h) (fun a ha o e => by rw [upd_ne (fun w => n3 p hp (by rw [← w]; exact ha))]; exact e)).2 d' o' rv
    have mem : ∀ a ∈ O1 ++ (o' ++ O2), a ∈ O1 ++ O2 ∨ a ∈ o' := fun a ha => by
      rcases List.mem_append.mp ha with h | h
      · exact .inl (List.mem_append_left _ h)
      · rcases List.mem_append.mp h with h | h
        · exact .inr h
        · exact .inl (List.mem_append_right _ h)
    have dis : ∀ a ∈ o', a ∉ O1 ++ O2 := fun a ha w => by
      rcases ho' a ha with h | h
      · exact n3 a h w
      · exact h.2.1 (sub a w)
    refine ⟨fi.ci.wr (fi.oc p (mid p hp)) mp, z2, ?_, fun a ha => ?_, fun a ha => ?_⟩
    · rw [List.nodup_append] at n1 ⊢
      obtain ⟨m1, m2, m3⟩ := n1
      refine ⟨m1, ?_, fun a ha b hb w => ?_⟩
      · rw [List.nodup_append]
        exact ⟨nd, m2, fun a ha b hb w => dis a ha (List.mem_append_right _ (w ▸ hb))⟩
      · subst w
        rcases List.mem_append.mp hb with h | h
        · exact dis a h (List.mem_append_left _ ha)
        · exact m3 a ha a h rfl
    · rcases mem a ha with h | h
      · exact fi.oc a (sub a h)
      · rcases ho' a h with w | w
        · exact fi.oc a (mid a w)
        · exact w.1
    · rcases mem a ha with h | h
      · exact fi.mO a (sub a h)
      · rcases ho' a h with w | w
        · exact fi.mO a (mid a w)
        · exact w.2.2
  · intro a ha
    rcases List.mem_append.mp ha with h | h
    · exact .inl (sub a (List.mem_append_left _ h))
    · rcases List.mem_append.mp h with h | h
      · exact .inr h
      · exact .inl (sub a (List.mem_append_right _ h))
theorem Go.wr {C1 O1 O2 : List Addr} {M1 : Addr → Prop} {H1 : Hp} {p : Addr} {o : HO} (g : Go False C O M H C1 O1 M1 H1) (hp : p ∈ O1) (hO : ∀ a ∈ O2, a ∈ O ∨ H a = none) : Go True C O M H C1 O2 M1 (upd H1 p o) where
  keep := fun a u h1 h2 e => by
    rw [upd_ne fun z => ?_]
    · exact g.keep a u h1 (fun z => z.elim) e
    · subst z
      rcases g.ownd _ hp with w | w
      · exact h2 trivial w
      · rw [e] at w; cases w
  pre := g.pre
  newc := g.weak.newc
  fresh := g.fresh
  forn := g.forn
  ownd := hO
  back := fun a h => by
    by_cases z : a = p
    · subst z
      rw [upd_same] at h; cases h
    · rw [upd_ne z] at h
      exact g.back a h

/-- x.append(e) -/
def sApp (i : Nat) (f : ES) : SS := fun env st => match env[i]? with
  | some (some (.own _)) => (f env st).bind fun x => match x.2.1[i]? with
    | some (some (.own ds)) => if ds.length < BIG then some (.nx (x.2.1.set i (some (.own (ds ++ [x.1])))) x.2.2) else none
    | _ => none
  | _ => none
theorem ts_app {i : Nat} (h : tS X.K (sApp i fe) N σ H) : tDrop (tBM X.K "list" rAppend (tVar i) (tCons (tE X.K fe) tNil)) N σ H := by
  obtain ⟨C, O, M, env, st, r, fi, e, q⟩ := h
  unfold sApp at e
  split at e
  · rename_i ds0 e0
    rw [Option.bind_eq_some_iff] at e
    obtain ⟨⟨a, env1, st1⟩, e1, e⟩ := e
    dsimp only at e
    split at e
    · rename_i ds1 e2
      split at e
      · rename_i hb
        cases e
        obtain ⟨v, o, s1, r0, _, _, _⟩ := fi.wr e0
        cases r0 with
        | @own p xs0 _ o0 hp r0 =>
          refine ⟨.ref p, s1, .inl ⟨rfl, xs0, SqL.of hp⟩, C, O, M, env, st, a, env1, st1, fi, e1, fun y H1 C1 O1 M1 os g1 fi1 r1 nd n1 => ?_⟩
          obtain ⟨v2, o2, s2, r2, sub2, nd2, w⟩ := fi1.wr e2
          have ev : v2 = .ref p := by
            rw [s1] at s2
            exact (Option.some.inj (Option.some.inj s2)).symm
          subst ev
          cases r2 with
          | @own _ xs1 _ o1 hp1 r2 =>
            have mp : M1 p := fi1.mO p (sub2 p (List.mem_cons_self ..))
            obtain ⟨np, nd3⟩ := List.nodup_cons.mp nd2
            have npos : p ∉ os := fun z => (n1 p z).2.1 (sub2 p (List.mem_cons_self ..))
            have k1 : ∀ a o, ¬ M1 a → H1 a = some o → upd H1 p (.lst (xs1 ++ [y])) a = some o := fun a o h e => by rw [upd_ne (fun z => h (by rw [z]; exact mp))]; exact e
            have ra : RVs X.K C1 M1 (upd H1 p (.lst (xs1 ++ [y]))) (xs1 ++ [y]) (ds1 ++ [a]) (o1 ++ os) :=
              (r2.mono (fun _ _ e => e) k1 (fun _ _ h _ => h) fun x hx o e => by rw [upd_ne (fun z => np (by rw [← z]; exact hx))]; exact e).app
                (RVs.one (r1.mono (fun _ _ e => e) k1 (fun _ _ h _ => h) fun x hx o e => by rw [upd_ne (fun z => npos (by rw [← z]; exact hx))]; exact e))
            obtain ⟨O2, fi2, m2⟩ := w p (xs1 ++ [y]) (.own (ds1 ++ [a])) (p :: (o1 ++ os)) (List.mem_cons_self ..) (fun x hx => by
              rcases List.mem_cons.mp hx with z | z
              · exact .inl (z ▸ List.mem_cons_self ..)
              · rcases List.mem_append.mp z with z | z
                · exact .inl (List.mem_cons_of_mem _ z)
                · exact .inr ⟨(n1 x z).1, (n1 x z).2.1, (n1 x z).2.2.1⟩) (by
              refine List.nodup_cons.mpr ⟨fun z => ?_, ?_⟩
              · rcases List.mem_append.mp z with z | z
                · exact np z
                · exact npos z
              · rw [List.nodup_append]
                refine ⟨nd3, nd, fun x hx u hu z => ?_⟩
                subst z
                exact (n1 x hu).2.1 (sub2 x (List.mem_cons_of_mem _ hx))) (.own upd_same ra)
            refine ⟨p, xs1, y, rfl, rfl, hp1, by rw [r2.len]; exact Nat.lt_of_lt_of_le hb (by decide), ?_⟩
            refine q σ _ C1 O2 M1 (g1.wr (sub2 p (List.mem_cons_self ..)) fun x hx => ?_) fi2
            rcases m2 x hx with z | z
            · exact g1.ownd x z
            · rcases List.mem_cons.mp z with z | z
              · exact g1.ownd x (z ▸ sub2 p (List.mem_cons_self ..))
              · rcases List.mem_append.mp z with z | z
                · exact g1.ownd x (sub2 x (List.mem_cons_of_mem _ z))
                · exact (n1 x z).2.2.2
      · cases e
    · cases e
  · cases e
theorem s1_app {i : Nat} {x : Str} {p1 p2 cpos : Pos} (hr : PE X (.Name x p1) (tVar i)) (he : SE X e fe) (hbase : attributeBase (.Name x p1) "append" X.env (eval (.Name x p1) X.env) = eval (.Name x p1) X.env := by rfl)
    (hfew : ((backTo cpos (starEach [e] X.env)).all (fun x => !x.1) && (backToKw cpos (keywordEach [] X.env)).all (fun x => x.1.isSome)
      && decide ([e].length + ([] : List Keyword).length + (if ([] : List Keyword).isEmpty then 0 else 1) < 30)) = true := by rfl)
    (hline : (p2.endLine == cpos.line) = true := by rfl) (hs : starEach [e] X.env = (false, eval e X.env) :: starEach [] X.env := by rfl) (hplain : (backTo cpos (starEach [] X.env)).any (·.1) = false := by rfl) :
    SS1 X (.Expr (.Call (.Attribute (.Name x p1) "append" p2) [e] [] cpos) pos) (sApp i fe) :=
  ps_weak (ps_expr (pe_bm PySem.F.plainAttrs_list PySem.F.slot_list_append PySem.F.type_list_append mt_append hr (pa_cons he pa_nil hs) hbase hfew hline hs hplain)) fun _ _ _ h => ts_app h
/-- x.extend(e) -/
def sExt (i : Nat) (f : ES) : SS := fun env st => match env[i]? with
  | some (some (.own _)) => (f env st).bind fun x => match x.2.1[i]?, x.1 with
    | some (some (.own ds)), .lst es => if ds.length + es.length ≤ BIG then some (.nx (x.2.1.set i (some (.own (ds ++ es)))) x.2.2) else none
    | _, _ => none
  | _ => none
theorem ts_ext {i : Nat} (h : tS X.K (sExt i fe) N σ H) : tDrop (tBM X.K "list" rExtend (tVar i) (tCons (tZ X.K fe) tNil)) N σ H := by
  obtain ⟨C, O, M, env, st, r, fi, e, q⟩ := h
  unfold sExt at e
  split at e
  · rename_i ds0 e0
    rw [Option.bind_eq_some_iff] at e
    obtain ⟨⟨a, env1, st1⟩, e1, e⟩ := e
    dsimp only at e
    split at e
    · rename_i ds1 es e2
      split at e
      · rename_i hb
        cases e
        obtain ⟨v, o, s1, r0, _, _, _⟩ := fi.wr e0
        cases r0 with
        | @own p xs0 _ o0 hp r0 =>
          refine ⟨.ref p, s1, .inl ⟨rfl, xs0, SqL.of hp⟩, C, O, M, env, st, .lst es, env1, st1, fi, e1, fun y H1 C1 O1 M1 g1 fi1 r1 => ?_⟩
          obtain ⟨v2, o2, s2, r2, sub2, nd2, w⟩ := fi1.wr e2
          have ev : v2 = .ref p := by
            rw [s1] at s2
            exact (Option.some.inj (Option.some.inj s2)).symm
          subst ev
          cases r2 with
          | @own _ xs1 _ o1 hp1 r2 =>
          cases r1 with
          | @lst b zs _ hz r1 =>
            have mp : M1 p := fi1.mO p (sub2 p (List.mem_cons_self ..))
            obtain ⟨np, nd3⟩ := List.nodup_cons.mp nd2
            have k1 : ∀ a o, ¬ M1 a → H1 a = some o → upd H1 p (.lst (xs1 ++ zs)) a = some o := fun a o h e => by rw [upd_ne (fun z => h (by rw [z]; exact mp))]; exact e
            have ra : RVs X.K C1 M1 (upd H1 p (.lst (xs1 ++ zs))) (xs1 ++ zs) (ds1 ++ es) (o1 ++ []) :=
              (r2.mono (fun _ _ e => e) k1 (fun _ _ h _ => h) fun x hx o e => by rw [upd_ne (fun z => np (by rw [← z]; exact hx))]; exact e).app
                (r1.mono (fun _ _ e => e) k1 (fun _ _ h _ => h) fun x hx o e => nomatch hx)
            rw [List.append_nil] at ra
            obtain ⟨O2, fi2, m2⟩ := w p (xs1 ++ zs) (.own (ds1 ++ es)) (p :: o1) (List.mem_cons_self ..) (fun x hx => .inl hx) nd2 (.own upd_same ra)
            refine ⟨p, b, xs1, zs, rfl, rfl, hp1, hz.1, by rw [r2.len, r1.len]; exact Nat.le_trans hb (by decide), ?_⟩
            refine q σ _ C1 O2 M1 (g1.wr (sub2 p (List.mem_cons_self ..)) fun x hx => ?_) fi2
            rcases m2 x hx with z | z
            · exact g1.ownd x z
            · exact g1.ownd x (sub2 x z)
      · cases e
    · cases e
  · cases e
theorem s1_ext {i : Nat} {x : Str} {p1 p2 cpos : Pos} (hr : PE X (.Name x p1) (tVar i)) (he : SZ X e fe) (hbase : attributeBase (.Name x p1) "extend" X.env (eval (.Name x p1) X.env) = eval (.Name x p1) X.env := by rfl)
    (hfew : ((backTo cpos (starEach [e] X.env)).all (fun x => !x.1) && (backToKw cpos (keywordEach [] X.env)).all (fun x => x.1.isSome)
      && decide ([e].length + ([] : List Keyword).length + (if ([] : List Keyword).isEmpty then 0 else 1) < 30)) = true := by rfl)
    (hline : (p2.endLine == cpos.line) = true := by rfl) (hs : starEach [e] X.env = (false, eval e X.env) :: starEach [] X.env := by rfl) (hplain : (backTo cpos (starEach [] X.env)).any (·.1) = false := by rfl) :
    SS1 X (.Expr (.Call (.Attribute (.Name x p1) "extend" p2) [e] [] cpos) pos) (sExt i fe) :=
  ps_weak (ps_expr (pe_bm PySem.F.plainAttrs_list PySem.F.slot_list_extend PySem.F.type_list_extend mt_extend hr (pa_cons he pa_nil hs) hbase hfew hline hs hplain)) fun _ _ _ h => ts_ext h

/-! ### x += e, of ints -/
def sAug (i : Nat) (g : Int → Int → Int) (f : ES) : SS := fun env st => match env[i]? with
  | some (some (.int a)) => (f env st).bind fun x => match x.1 with
    | .int b => if i < x.2.1.length then some (.nx (x.2.1.set i (some (.int (g a b)))) x.2.2) else none
    | _ => none
  | _ => none
theorem ts_aug {i : Nat} {g : Int → Int → Int} (h : tS K (sAug i g fe) N σ H) : tAug i (tP K fe) (ipI g) N σ H := by
  obtain ⟨C, O, M, env, st, r, fi, e, q⟩ := h
  unfold sAug at e
  split at e
  · rename_i a0 e0
    rw [Option.bind_eq_some_iff] at e
    obtain ⟨⟨a, env1, st1⟩, e1, e⟩ := e
    dsimp only at e
    split at e
    · rename_i b
      split at e
      · rename_i hi
        cases e
        obtain ⟨v, o, s1, r0, _⟩ := fi.sl.get e0
        cases r0
        refine ⟨.int a0, s1, C, O, M, env, st, .int b, env1, st1, fi, e1, fun y H1 C1 O1 M1 os g1 fi1 r1 n1 => ?_⟩
        cases r1
        obtain ⟨O2, fi2, m2⟩ := fi1.set hi (.int (g a0 b)) .nil fun a ha => nomatch ha
        refine ⟨a0, b, rfl, rfl, q _ H1 C1 O2 M1 ⟨fun a o h1 _ h3 => g1.keep a o h1 (fun z => z.elim) h3, g1.pre, g1.weak.newc, g1.fresh, g1.forn, fun a ha => ?_, g1.back⟩ fi2⟩
        rcases m2 a ha with z | z
        · exact g1.ownd a z
        · exact nomatch z
      · cases e
    · cases e
  · cases e
theorem s1_aug {i : Nat} {x : Str} {op : Operator} {g : Int → Int → Int} {pos' : Pos} (hN : X.N.Nodup) (hi : X.N[i]? = some x) (hx : Loc X.env.scope x) (he : SP X e fe) (ho : PIp X op (ipI g))
    (hf : X.fn x = true ∨ X.env.scope.names.lookup x = some .local := by first | exact .inl rfl | exact .inr rfl | assumption) : SS1 X (.AugAssign (.Name x pos') op e pos) (sAug i g fe) := ps_weak (ps_aug hN hi hx he ho hf) fun _ _ _ h => ts_aug h

/-! ### cells -/
theorem CI.set (ci : CI K C M H st) {c : Nat} {p : Addr} {ds : List D} {xs : List V} (h1 : st[c]? = some ds) (h2 : C[c]? = some p) (r : RVs K [] M (upd H p (.lst xs)) xs ds' []) : CI K C M (upd H p (.lst xs)) (st.set c ds') :=
  ⟨by rw [List.length_set]; exact ci.len, fun i es q e1 e2 => by
    by_cases hi : i = c
    · subst hi
      rw [List.getElem?_set_self (List.getElem?_eq_some_iff.mp h1).1] at e1
      cases e1
      rw [h2] at e2
      cases e2
      exact ⟨xs, upd_same, r⟩
    · rw [List.getElem?_set_ne (Ne.symm hi)] at e1
      obtain ⟨ys, h, r⟩ := ci.at_ i es q e1 e2
      have nq : q ≠ p := fun z => by
        subst z
        obtain ⟨l1, w1⟩ := List.getElem?_eq_some_iff.mp e2
        obtain ⟨l2, w2⟩ := List.getElem?_eq_some_iff.mp h2
        exact hi ((List.getElem_inj ci.nd).mp (w1.trans w2.symm))
      exact ⟨ys, by rw [upd_ne nq]; exact h, r.mono (fun _ _ e => e) (fun a o h e => by rw [upd_ne (fun z => h (by rw [z]; exact ci.mC p (List.mem_of_getElem? h2)))]; exact e) (fun _ _ h _ => h) fun _ z => nomatch z⟩, ci.nd, ci.mC, fun a h => by
    by_cases z : a = p
    · exact ⟨_, by rw [z]; exact upd_same⟩
    · obtain ⟨o, w⟩ := ci.tr a h
      exact ⟨o, by rw [upd_ne z]; exact w⟩⟩
/-- cell[k] = e -/
def setCell (c : Nat) (d : D) (k : D) (env : Env) (st : Ms) : Option Fl := match k, st[c]? with
  | .int k, some ds => (ixN ds.length k).bind fun j => if d.nc = true then some (.nx env (st.set c (ds.set j d))) else none
  | _, _ => none
def sSetC (i : Nat) (fk : ES) (f : ES) : SS := fun env st => (f env st).bind fun x => match x.2.1[i]? with
  | some (some (.cell c)) => (fk x.2.1 x.2.2).bind fun y => setCell c x.1 y.1 y.2.1 y.2.2
  | _ => none
theorem ts_setc {i : Nat} {fk : ES} (h : tS K (sSetC i fk fe) N σ H) : tAsg (tZ K fe) (gSub (tVar i) (tP K fk) rSetL) N σ H := by
  obtain ⟨C, O, M, env, st, r, fi, e, q⟩ := h
  unfold sSetC at e
  rw [Option.bind_eq_some_iff] at e
  obtain ⟨⟨a, env1, st1⟩, e1, e⟩ := e
  dsimp only at e
  split at e
  · rename_i c e3
    rw [Option.bind_eq_some_iff] at e
    obtain ⟨⟨b, env2, st2⟩, e2, e⟩ := e
    dsimp only at e
    unfold setCell at e
    split at e
    · rename_i k ds e4
      rw [Option.bind_eq_some_iff] at e
      obtain ⟨j, e5, e⟩ := e
      split at e
      · rename_i hnc
        cases e
        refine ⟨C, O, M, env, st, a, env1, st1, fi, e1, fun y H1 C1 O1 M1 g1 fi1 r1 => ?_⟩
        obtain ⟨v, o, s1, r0, _⟩ := fi1.sl.get e3
        cases r0 with
        | @cell p _ hc =>
          refine ⟨.ref p, s1, C1, O1, M1, env1, st1, .int k, env2, st2, fi1, e2, fun z H2 C2 O2 M2 os g2 fi2 r2 n2 => ?_⟩
          cases r2
          have hc2 : C2[c]? = some p := g2.cat c p hc
          obtain ⟨xs, hp, rs⟩ := fi2.ci.at_ c ds p e4 hc2
          have hm : M2 p := fi2.ci.mC p (List.mem_of_getElem? hc2)
          have k1 : ∀ a o, ¬ M2 a → H2 a = some o → upd H2 p (.lst (xs.set j y)) a = some o := fun a o h e => by rw [upd_ne (fun z => h (by rw [z]; exact hm))]; exact e
          have ry : RV K [] M2 H2 y a [] := (g2.rv fi1.ci.mC r1 fun a ha => nomatch ha).free hnc
          have rr : RVs K [] M2 (upd H2 p (.lst (xs.set j y))) (xs.set j y) (ds.set j a) [] :=
            (rs.set0 ry j rfl).mono (fun _ _ e => e) k1 (fun _ _ h _ => h) fun _ z => nomatch z
          refine ⟨p, xs, k, j, rfl, rfl, hp, by rw [rs.len]; exact e5, ?_⟩
          have pO : p ∉ O2 := fun z => fi2.oc p z (List.mem_of_getElem? hc2)
          have g12 := g1.trans fi.ci.tr g2
          refine q σ _ C2 O2 M2 ⟨fun x o h1 _ h3 => ?_, g12.pre, g12.weak.newc, g12.fresh, g12.forn, g12.ownd, fun x hx => ?_⟩ ⟨fi2.ci.set e4 hc2 rr, fi2.sl.mono (fun _ _ e => e) k1 (fun _ _ h _ => h) fun x hx o e => by rw [upd_ne fun z => pO (by rw [← z]; exact hx)]; exact e, fi2.od, fi2.oc, fi2.mO⟩
          · rw [upd_ne fun z => ?_]
            · exact g12.keep x o h1 (fun z => z.elim) h3
            · subst z
              rcases g12.newc0 _ (List.mem_of_getElem? hc2) with w | w
              · exact h1 w
              · rw [h3] at w; cases w
          · by_cases z : x = p
            · subst z
              rw [upd_same] at hx; cases hx
            · rw [upd_ne z] at hx
              exact g12.back x hx
      · cases e
    · cases e
  · cases e
theorem s1_setc {i : Nat} {x : Str} {p1 p2 : Pos} {k : Expr} {fk : ES} (he : SZ X e fe) (hr : PE X (.Name x p1) (tVar i)) (hk : SP X k fk) (ha : ∀ v, assign (.Subscript (.Name x p1) k p2) X.env v = (do
      let ov ← holding [v] (eval (.Name x p1) X.env)
      let iv ← holding [v, ov] (eval k X.env)
      standAt p2
      holding [v, ov, iv] (setItem ov iv v)
      release [v, ov, iv] []) := by intro _; rfl) (hs : swapsWithSole [.Subscript (.Name x p1) k p2] e pos.line X.env = pure false := by rfl) (hw : swappedStores [.Subscript (.Name x p1) k p2] e X.env = pure none := by rfl)
    (h1 : (assignEach [.Subscript (.Name x p1) k p2] X.env).map (·.2) = [assign (.Subscript (.Name x p1) k p2) X.env] := by rfl) : SS1 X (.Assign [.Subscript (.Name x p1) k p2] e pos) (sSetC i fk fe) :=
  ps_weak (ps_asg he (pg_sub hr hk set_list ha) hs hw h1) fun _ _ _ h => ts_setc h
/-- x = e, e a new list that becomes a cell -/
def sCell (i : Nat) (f : ES) : SS := fun env st => (f env st).bind fun x => match x.1 with
  | .own ds => if i < x.2.1.length ∧ D.ncs (D.fzs ds) = true then some (.nx (x.2.1.set i (some (.cell x.2.2.length))) (x.2.2 ++ [D.fzs ds])) else none
  | _ => none
theorem ts_cell {i : Nat} (h : tS K (sCell i fe) N σ H) : tAsg (tE K fe) (gName i) N σ H := by
  obtain ⟨C, O, M, env, st, r, fi, e, q⟩ := h
  unfold sCell at e
  rw [Option.bind_eq_some_iff] at e
  obtain ⟨⟨a, env1, st1⟩, e1, e⟩ := e
  dsimp only at e
  split at e
  · rename_i ds
    split at e
    · rename_i hi
      cases e
      refine ⟨C, O, M, env, st, .own ds, env1, st1, fi, e1, fun v H1 C1 O1 M1 os g1 fi1 r1 nd n1 => ?_⟩
      cases r1 with
      | @own p xs _ o1 hp r1 =>
        obtain ⟨np, nd1⟩ := List.nodup_cons.mp nd
        obtain ⟨p1, p2, p3, p4⟩ := n1 p (List.mem_cons_self ..)
        have n2 : ∀ a ∈ o1, a ∉ C1 ∧ a ∉ O1 ∧ M1 a ∧ (a ∈ O ∨ H a = none) := fun a ha => n1 a (List.mem_cons_of_mem _ ha)
        have fl := fi1.less (os := o1) (fun a ha => (n2 a ha).1) fun a ha => (n2 a ha).2.1
        have mp : (fun a => M1 a ∧ a ∉ o1) p := ⟨p3, np⟩
        have rz : RVs K C1 (fun a => M1 a ∧ a ∉ o1) H1 xs (D.fzs ds) [] := r1.fz (fun a h z => h z.1) fun a ha z => z.2 ha
        have hcat : ∀ (c : Nat) (q : Addr), C1[c]? = some q → (C1 ++ [p])[c]? = some q := fun c q e => by
          rw [List.getElem?_append_left (List.getElem?_eq_some_iff.mp e).1]
          exact e
        have hlast : (C1 ++ [p])[st1.length]? = some p := by
          rw [fi1.ci.len, List.getElem?_append_right (Nat.le_refl _), Nat.sub_self]
          rfl
        have ci2 : CI K (C1 ++ [p]) (fun a => M1 a ∧ a ∉ o1) H1 (st1 ++ [D.fzs ds]) := by
          refine ⟨by rw [List.length_append, List.length_append, fi1.ci.len]; rfl, fun j es q e1 e2 => ?_, ?_, fun a ha => ?_, fl.ci.tr⟩
          · by_cases hj : j < st1.length
            · rw [List.getElem?_append_left hj] at e1
              rw [List.getElem?_append_left (by rw [← fi1.ci.len]; exact hj)] at e2
              exact fl.ci.at_ j es q e1 e2
            · rw [List.getElem?_append_right (Nat.le_of_not_lt hj)] at e1
              rw [List.getElem?_append_right (by rw [← fi1.ci.len]; exact Nat.le_of_not_lt hj)] at e2
              rw [← fi1.ci.len] at e2
              cases hz : j - st1.length with
              | zero =>
                rw [hz] at e1 e2
                cases e1
                cases e2
                exact ⟨xs, hp, rz.free hi.2⟩
              | succ m =>
                rw [hz] at e1
                simp at e1
          · rw [List.nodup_append]
            refine ⟨fi1.ci.nd, by simp, fun a ha b hb z => ?_⟩
            have : b = p := by simpa using hb
            subst this
            exact p1 (z ▸ ha)
          · rcases List.mem_append.mp ha with z | z
            · exact fl.ci.mC a z
            · have : a = p := by simpa using z
              subst this
              exact mp
        have f2 : FI K (C1 ++ [p]) O1 (fun a => M1 a ∧ a ∉ o1) H1 σ env1 (st1 ++ [D.fzs ds]) := ⟨ci2, fl.sl.mono hcat (fun _ _ _ e => e) (fun _ _ h _ => h) fun _ _ _ e => e, fl.od, fun a ha z => by
          rcases List.mem_append.mp z with z | z
          · exact fl.oc a ha z
          · have : a = p := by simpa using z
            subst this
            exact p2 ha, fl.mO⟩
        obtain ⟨O2, f3, m3⟩ := f2.set hi.1 (d := .cell st1.length) (.cell hlast) .nil fun a ha => nomatch ha
        refine q _ H1 (C1 ++ [p]) O2 _ ⟨fun a o h1 _ h3 => g1.keep a o h1 (fun z => z.elim) h3, ?_, fun a ha => ?_, fun a h => g1.fresh a h.1, fun a h1 h2 => ⟨g1.forn a h1 h2, fun z => ?_⟩, fun a ha => ?_, g1.back⟩ f3
        · obtain ⟨D1, e⟩ := g1.pre
          exact ⟨D1 ++ [p], by rw [e, List.append_assoc]⟩
        · rcases List.mem_append.mp ha with z | z
          · exact (g1.newc0 a z).imp id .inr
          · have ez : a = p := by simpa using z
            rw [ez]
            exact .inr (p4.imp (fun w => ⟨trivial, w⟩) id)
        · rcases m3 a ha with z | z
          · exact g1.ownd a z
          · exact nomatch z
        · rcases (n2 a z).2.2.2 with w | w
          · exact h2 w
          · obtain ⟨o, w2⟩ := fi.ci.tr a h1
            rw [w] at w2; cases w2
    · cases e
  · cases e
theorem s1_cell {i : Nat} {x : Str} {pos' : Pos} (hN : X.N.Nodup) (hi : X.N[i]? = some x) (hx : Loc X.env.scope x) (he : SE X e fe) (hs : swapsWith e (some (.Name x pos')) pos.line X.env = pure false := by rfl)
    (hf : X.fn x = true ∨ X.env.scope.names.lookup x = some .local := by first | exact .inl rfl | exact .inr rfl | assumption) : SS1 X (.Assign [.Name x pos'] e pos) (sCell i fe) := ps_weak (ps_set hN hi hx he hs hf) fun _ _ _ h => ts_cell h
end
end Pv

/-! # PvG -/
set_option Elab.async false
set_option linter.all false
set_option maxHeartbeats 1000000
/-! targets, walks, loops -/
namespace Pv
open PySem L2
abbrev GS := D → Env → Option Env
def tG (K : PySem.W.Frag) (js : List Nat) (gs : GS) : TG := fun x σ H Q => ∃ C O M env st d env', FI K C O M H σ env st ∧ RV K C M H x d [] ∧ gs d env = some env' ∧
  ∀ σ' O', FI K C O' M H σ' env' st → (∀ a ∈ O', a ∈ O) → (∀ vs : List Nat, (∀ j ∈ js, j ∈ vs) → wipe σ' vs = wipe σ vs) → Q σ' H
def SG (X : Cx) (tg : Expr) (js : List Nat) (gs : GS) : Prop := PG X tg (tG X.K js gs)
def tGs (K : PySem.W.Frag) (js : List Nat) (gs : List D → Env → Option Env) : TGs := fun xs σ H Q => ∃ C O M env st ds env', FI K C O M H σ env st ∧ RVs K C M H xs ds [] ∧ gs ds env = some env' ∧
  ∀ σ' O', FI K C O' M H σ' env' st → (∀ a ∈ O', a ∈ O) → (∀ vs : List Nat, (∀ j ∈ js, j ∈ vs) → wipe σ' vs = wipe σ vs) → Q σ' H
def SGs (X : Cx) (tg : List Expr) (js : List Nat) (gs : List D → Env → Option Env) : Prop := PGs X tg (tGs X.K js gs)
theorem pg_weak {X : Cx} {e : Expr} {t t' : TG} (h : PG X e t) (i : ∀ x σ H Q, t' x σ H Q → t x σ H Q) : PG X e t' := ⟨fun pins s σ H v u Q I r q => h.run pins s σ H v u Q I r (i v σ H Q q)⟩
theorem pgs_weak {X : Cx} {e : List Expr} {t t' : TGs} (h : PGs X e t) (i : ∀ x σ H Q, t' x σ H Q → t x σ H Q) : PGs X e t' := ⟨fun pins s σ H v u Q I r q => h.run pins s σ H v u Q I r (i v σ H Q q)⟩
theorem pi_weak {X : Cx} {tg e : Expr} {t t' : TI} (h : PI X tg e t) (i : ∀ σ H Q, t' σ H Q → t σ H Q) : PI X tg e t' := ⟨fun pins s σ H Q I q => h.run pins s σ H Q I (i σ H Q q)⟩
theorem wipe_at (σ : L2.St) (x : Option V) : ∀ (vs : List Nat) (j : Nat), j ∈ vs → wipe (σ.set j x) vs = wipe σ vs
  | [], j, h => nomatch h
  | v :: vs, j, h => by
    show (wipe (σ.set j x) vs).set v none = (wipe σ vs).set v none
    by_cases hv : v = j
    · subst hv
      by_cases hm : v ∈ vs
      · rw [wipe_at σ x vs v hm]
      · have e : wipe (σ.set v x) vs = (wipe σ vs).set v x := by
          clear h
          induction vs with
          | nil => rfl
          | cons u us ih =>
            have hu : u ≠ v := fun z => hm (z ▸ List.mem_cons_self ..)
            show (wipe (σ.set v x) us).set u none = ((wipe σ us).set u none).set v x
            rw [ih fun z => hm (List.mem_cons_of_mem _ z), List.set_comm _ _ (Ne.symm hu)]
        rw [e, List.set_set]
    · have hm : j ∈ vs := (List.mem_cons.mp h).resolve_left fun z => hv z.symm
      rw [wipe_at σ x vs j hm]
section
variable {X : Cx} {K : PySem.W.Frag} {C C' O O' : List Addr} {M M' : Addr → Prop} {H H' : Hp} {st st' : Ms} {σ σ' : L2.St} {env env' : Env} {N : Ends} {f g body : SS} {fe : ES} {e c : Expr} {es : List Expr} {pos : Pos} {js js' : List Nat} {gs : GS} {gss : List D → Env → Option Env}
def gN (i : Nat) : GS := fun d env => if i < env.length then some (env.set i (some d)) else none
theorem sg_name {i : Nat} {x : Str} (h : PG X (.Name x pos) (gName i)) : SG X (.Name x pos) [i] (gN i) := pg_weak h fun v σ H Q ⟨C, O, M, env, st, d, env', fi, r, e, q⟩ => by
  unfold gN at e
  split at e
  · rename_i hi
    cases e
    obtain ⟨O2, f2, m2⟩ := fi.set hi r .nil fun a ha => nomatch ha
    exact q _ O2 f2 (fun a ha => (m2 a ha).elim id fun z => nomatch z) fun vs h => wipe_at σ _ vs i (h i (List.mem_cons_self ..))
  · cases e
def gNilS : List D → Env → Option Env := fun ds env => match ds with
  | [] => some env
  | _ => none
def gConsS (g : GS) (gs : List D → Env → Option Env) : List D → Env → Option Env := fun ds env => match ds with
  | d :: ds => (g d env).bind fun e => gs ds e
  | [] => none
def gTupS (gs : List D → Env → Option Env) (n : Nat) : GS := fun d env => match d with
  | .tup ds => if ds.length = n then gs ds env else none
  | _ => none
theorem sgs_nil : SGs X [] [] gNilS := pgs_weak pgs_nil fun v σ H Q ⟨C, O, M, env, st, ds, env', fi, r, e, q⟩ => by
  unfold gNilS at e
  split at e
  · cases e
    cases r
    exact ⟨rfl, q σ O fi (fun _ h => h) fun _ _ => rfl⟩
  · cases e
theorem sgs_cons (h : SG X e js gs) (h2 : SGs X es js' gss) (hp : PGs X (e :: es) (gCons (tG X.K js gs) (tGs X.K js' gss))) : SGs X (e :: es) (js ++ js') (gConsS gs gss) :=
  pgs_weak hp fun v σ H Q ⟨C, O, M, env, st, ds, env', fi, r, e, q⟩ => by
  unfold gConsS at e
  split at e
  · rename_i d ds
    rw [Option.bind_eq_some_iff] at e
    obtain ⟨env1, e1, e2⟩ := e
    generalize hz : ([] : List Addr) = z at r
    cases r with
    | @cons v vs _ _ o1 o2 r1 r2 =>
      obtain ⟨rfl, rfl⟩ := List.append_eq_nil_iff.mp hz.symm
      refine ⟨v, vs, rfl, C, O, M, env, st, d, env1, fi, r1, e1, fun σ1 O1 f1 s1 w1 => ⟨C, O1, M, env1, st, ds, env', f1, r2, e2, fun σ2 O2 f2 s2 w2 => ?_⟩⟩
      exact q σ2 O2 f2 (fun a ha => s1 a (s2 a ha)) fun vs hv => (w2 vs fun j hj => hv j (List.mem_append_right _ hj)).trans (w1 vs fun j hj => hv j (List.mem_append_left _ hj))
  · cases e
theorem sg_tup {k n : Nat} (hp : PG X (.Tuple es k pos) (gTup X.K n (tGs X.K js gss))) : SG X (.Tuple es k pos) js (gTupS gss n) := pg_weak hp fun v σ H Q ⟨C, O, M, env, st, d, env', fi, r, e, q⟩ => by
  unfold gTupS at e
  split at e
  · rename_i ds
    split at e
    · rename_i hn
      cases r with
      | @tup p xs _ _ h r =>
        refine ⟨p, xs, rfl, ?_, r.len.trans hn, C, O, M, env, st, ds, env', fi, r, e, q⟩
        rcases h with h | h
        · exact SqT.of h.1
        · exact h H
    · cases e
  · cases e

/-! ### what is walked -/
/-- J walks over ds as long as what stands still stands -/
def ItOk (K : PySem.W.Frag) (J : It) (C O : List Addr) (M : Addr → Prop) (ds : List D) (H : Hp) : Prop :=
  ∀ C1 O1 M1 H1, Go True C O M H C1 O1 M1 H1 → (∀ a, M1 a → ∃ o, H1 a = some o) → ∀ i, (ds.length ≤ i → J.stop i H1) ∧ ∀ d, ds[i]? = some d → J.go i H1 ∧ ∀ x H2, J.yld i H1 x H2 → Gr M1 H1 M1 H2 ∧ RV K C1 M1 H2 x d []
abbrev WS := Env → Ms → Option (List D × Env × Ms)
def tI (K : PySem.W.Frag) (w : WS) : TI := fun σ H R => ∃ C O M env st ds env' st', FI K C O M H σ env st ∧ w env st = some (ds, env', st') ∧
  ∀ J H' C' O' M', Go False C O M H C' O' M' H' → FI K C' O' M' H' σ env' st' → ItOk K J C' O' M' ds H' → R J H'
def SI (X : Cx) (tg e : Expr) (w : WS) : Prop := PI X tg e (tI X.K w)
def wLst (f : ES) : WS := fun env st => (f env st).bind fun x => match x.1 with
  | .lst ds => some (ds, x.2)
  | .scr ns => some (ns.map D.int, x.2)
  | _ => none
def wTup (f : ES) : WS := fun env st => (f env st).bind fun x => match x.1 with
  | .tup ds => some (ds, x.2)
  | _ => none
theorem itl_ok {a : Addr} {xs : List V} {ds : List D} (hC : ∀ p ∈ C, M p) (hO : ∀ p ∈ O, M p) (h : ∀ C1 O1 M1 H1, Go True C O M H C1 O1 M1 H1 → SqL K H1 a xs) (r : RVs K C M H xs ds []) : ItOk K (Itl K a) C O M ds H := fun C1 O1 M1 H1 g t i => by
  have r1 : RVs K C1 M1 H1 xs ds [] := g.rvs0 hC hO r
  have s := h C1 O1 M1 H1 g
  refine ⟨fun hl => ⟨xs, s, by rw [r.len]; exact hl⟩, fun d e => ?_⟩
  obtain ⟨v, e1, rv⟩ := r1.get0 e
  refine ⟨⟨xs, v, s, e1⟩, fun x H2 hy => ?_⟩
  obtain ⟨rfl, hy⟩ := hy
  have e2 := (hy xs s).symm.trans e1
  cases e2
  exact ⟨.refl t, rv⟩
theorem itt_ok {a : Addr} {xs : List V} {ds : List D} (hC : ∀ p ∈ C, M p) (hO : ∀ p ∈ O, M p) (h : ∀ C1 O1 M1 H1, Go True C O M H C1 O1 M1 H1 → SqT K H1 a xs) (r : RVs K C M H xs ds []) : ItOk K (Itt K a) C O M ds H := fun C1 O1 M1 H1 g t i => by
  have r1 : RVs K C1 M1 H1 xs ds [] := g.rvs0 hC hO r
  have s := h C1 O1 M1 H1 g
  refine ⟨fun hl => ⟨xs, s, by rw [r.len]; exact hl⟩, fun d e => ?_⟩
  obtain ⟨v, e1, rv⟩ := r1.get0 e
  refine ⟨⟨xs, v, s, e1⟩, fun x H2 hy => ?_⟩
  obtain ⟨rfl, hy⟩ := hy
  have e2 := (hy xs s).symm.trans e1
  cases e2
  exact ⟨.refl t, rv⟩
theorem go_lr {C1 O1 : List Addr} {M1 : Addr → Prop} {H1 : Hp} {a : Addr} {u : HO} (g : Go True C O M H C1 O1 M1 H1) (hC : ∀ p ∈ C, M p) (hO : ∀ p ∈ O, M p) (h : H a = some u) (n : ¬ M a) : H1 a = some u := g.keep a u (fun z => n (hC a z)) (fun _ z => n (hO a z)) h
theorem si_lst {tg : Expr} (h : SZ X e fe) : SI X tg e (wLst fe) := pi_weak (pi_list h) fun σ H R ⟨C, O, M, env, st, ds, env', st', fi, e, q⟩ => by
  unfold wLst at e
  rw [Option.bind_eq_some_iff] at e
  obtain ⟨⟨a, env1, st1⟩, e1, e⟩ := e
  dsimp only at e
  split at e
  · cases e
    refine ⟨C, O, M, env, st, .lst ds, env', st', fi, e1, fun v H1 C1 O1 M1 g1 fi1 r1 => ?_⟩
    cases r1 with
    | @lst p xs _ h r =>
      exact ⟨p, rfl, ⟨xs, SqL.of h.1⟩, q _ H1 C1 O1 M1 g1 fi1 (itl_ok fi1.ci.mC fi1.mO (fun C2 O2 M2 H2 g2 => SqL.of (go_lr g2 fi1.ci.mC fi1.mO h.1 h.2)) r)⟩
  · rename_i ns
    cases e
    refine ⟨C, O, M, env, st, .scr ns, env', st', fi, e1, fun v H1 C1 O1 M1 g1 fi1 r1 => ?_⟩
    cases r1 with
    | @scr p _ h =>
      have hz : ∀ C2 O2 M2 H2, Go True C1 O1 M1 H1 C2 O2 M2 H2 → SqL X.K H2 p (ns.map V.int) := fun C2 O2 M2 H2 g2 => by
        rcases h with ⟨h | ⟨o, h⟩, n⟩ | h
        · exact SqL.of (go_lr g2 fi1.ci.mC fi1.mO h n)
        · exact .inl (.inr ⟨o, go_lr g2 fi1.ci.mC fi1.mO h n⟩)
        · exact h H2
      exact ⟨p, rfl, ⟨_, hz _ _ _ _ .refl⟩, q _ H1 C1 O1 M1 g1 fi1 (itl_ok fi1.ci.mC fi1.mO hz (RVs.ints ns))⟩
  · cases e
theorem si_tup {tg : Expr} (h : SZ X e fe) : SI X tg e (wTup fe) := pi_weak (pi_tup h) fun σ H R ⟨C, O, M, env, st, ds, env', st', fi, e, q⟩ => by
  unfold wTup at e
  rw [Option.bind_eq_some_iff] at e
  obtain ⟨⟨a, env1, st1⟩, e1, e⟩ := e
  dsimp only at e
  split at e
  · cases e
    refine ⟨C, O, M, env, st, .tup ds, env', st', fi, e1, fun v H1 C1 O1 M1 g1 fi1 r1 => ?_⟩
    cases r1 with
    | @tup p xs _ _ h r =>
      have hz : ∀ C2 O2 M2 H2, Go True C1 O1 M1 H1 C2 O2 M2 H2 → SqT X.K H2 p xs := fun C2 O2 M2 H2 g2 => by
        rcases h with ⟨h, n⟩ | h
        · exact SqT.of (go_lr g2 fi1.ci.mC fi1.mO h n)
        · exact h H2
      exact ⟨p, rfl, ⟨xs, hz _ _ _ _ .refl⟩, q _ H1 C1 O1 M1 g1 fi1 (itt_ok fi1.ci.mC fi1.mO hz r)⟩
  · cases e
/-- lo, lo + c, .. -/
def steps (lo c : Int) (n : Nat) : List D := (List.range n).map fun (i : Nat) => D.int (lo + (i : Int) * c)
theorem itr_ok {lo : Int} {n : Nat} : ItOk K (Itr lo n) C O M (steps lo 1 n) H := fun C1 O1 M1 H1 g t i => by
  refine ⟨fun hl => (show n ≤ i by simpa [steps] using hl), fun d e => ?_⟩
  simp only [steps, List.getElem?_map, Option.map_eq_some_iff] at e
  obtain ⟨k, e, rfl⟩ := e
  obtain ⟨e5, rfl⟩ : i < n ∧ i = k := by
    obtain ⟨w, z⟩ := List.getElem?_eq_some_iff.mp e
    rw [List.getElem_range] at z
    exact ⟨by simpa using w, z⟩
  refine ⟨e5, fun x H2 hy => ?_⟩
  obtain ⟨rfl, rfl⟩ := hy
  rw [Int.mul_one]
  exact ⟨.refl t, .int _⟩
theorem itc_ok {lo c : Int} {n : Nat} : ItOk K (Itc lo c n) C O M (steps lo c n) H := fun C1 O1 M1 H1 g t i => by
  refine ⟨fun hl => (show n ≤ i by simpa [steps] using hl), fun d e => ?_⟩
  simp only [steps, List.getElem?_map, Option.map_eq_some_iff] at e
  obtain ⟨k, e, rfl⟩ := e
  obtain ⟨e5, rfl⟩ : i < n ∧ i = k := by
    obtain ⟨w, z⟩ := List.getElem?_eq_some_iff.mp e
    rw [List.getElem_range] at z
    exact ⟨by simpa using w, z⟩
  refine ⟨e5, fun x H2 hy => ?_⟩
  obtain ⟨rfl, rfl⟩ := hy
  exact ⟨.refl t, .int _⟩
/-! ### for -/
def forF (gs : GS) (body : SS) : List D → SS
  | [], env, st => some (.nx env st)
  | d :: ds, env, st => (gs d env).bind fun env1 => (body env1 st).bind fun r => match r with
    | .nx env2 st2 => forF gs body ds env2 st2
    | .ct env2 st2 => forF gs body ds env2 st2
    | .bk env2 st2 => some (.nx env2 st2)
    | .rt d st2 => some (.rt d st2)
def sFor (w : WS) (gs : GS) (body : SS) : SS := fun env st => (w env st).bind fun x => forF gs body x.1 x.2.1 x.2.2
theorem s1_for {tg iter : Expr} {bs : List Stmt} {w : WS} (hp : PassesOwn (model X.prog X.w) X.A X.env X.xe) (hc : X.calm = true) (hi : SI X tg iter w) (hg : SG X tg js gs) (hb : SSs X bs body) (hs : ∀ x, foldedSetIterable iter X.env x = pure x := by intro _; rfl) : SS1 X (.For tg iter bs [] pos) (sFor w gs body) := ps_weak (ps_for hp hc hi hg hb hs) fun N σ H ⟨C, O, M, env, st, r, fi, e, q⟩ => by
  unfold sFor at e
  rw [Option.bind_eq_some_iff] at e
  obtain ⟨⟨ds, env1, st1⟩, e1, e⟩ := e
  dsimp only at e
  refine ⟨C, O, M, env, st, ds, env1, st1, fi, e1, fun J H1 C1 O1 M1 g1 fi1 it => ?_⟩
  have q1 : FlOk X.K C1 O1 M1 H1 N r := q.from fi g1.weak
  clear q e1
  refine ⟨fun i m σ2 H2 => m + i = ds.length ∧ ∃ C2 O2 M2 env2 st2, Go True C1 O1 M1 H1 C2 O2 M2 H2 ∧ FI X.K C2 O2 M2 H2 σ2 env2 st2 ∧ forF gs body (ds.drop i) env2 st2 = some r, ⟨ds.length, rfl, C1, O1, M1, env1, st1, .refl, fi1, by simpa using e⟩, fun i m σ2 H2 hW => ?_⟩
  obtain ⟨hm, C2, O2, M2, env2, st2, g2, fi2, e2⟩ := hW
  obtain ⟨hstop, hgo⟩ := it C2 O2 M2 H2 g2 fi2.ci.tr i
  cases hd : ds[i]? with
  | none =>
    have hl : ds.length ≤ i := List.getElem?_eq_none_iff.mp hd
    rw [List.drop_eq_nil_of_le hl] at e2
    cases e2
    exact .inl ⟨hstop hl, q1 σ2 H2 C2 O2 M2 g2 fi2⟩
  | some d =>
    obtain ⟨hgo1, hy⟩ := hgo d hd
    have hlt : i < ds.length := (List.getElem?_eq_some_iff.mp hd).1
    have hdr : ds.drop i = d :: ds.drop (i + 1) := by
      rw [List.drop_eq_getElem_cons hlt, (List.getElem?_eq_some_iff.mp hd).2]
    rw [hdr] at e2
    unfold forF at e2
    rw [Option.bind_eq_some_iff] at e2
    obtain ⟨env3, e3, e2⟩ := e2
    rw [Option.bind_eq_some_iff] at e2
    obtain ⟨r1, e4, e2⟩ := e2
    refine .inr ⟨hgo1, fun σ4 H4 => m - 1 + (i + 1) = ds.length ∧ ∃ C4 O4 M4 env4 st4, Go True C1 O1 M1 H1 C4 O4 M4 H4 ∧ FI X.K C4 O4 M4 H4 σ4 env4 st4 ∧ forF gs body (ds.drop (i + 1)) env4 st4 = some r, fun σ4 H4 h => ⟨m - 1, by omega, h⟩, fun x H3 hx => ?_⟩
    obtain ⟨gr, rx⟩ := hy x H3 hx
    refine ⟨C2, O2, M2, env2, st2, d, env3, gr.fi fi2, rx, e3, fun σ3 O3 fi3 s3 _ => ?_⟩
    have g3 : Go True C1 O1 M1 H1 C2 O3 M2 H3 := g2.trans fi1.ci.tr ⟨fun a o _ _ e => gr.keep a o e, ⟨[], (List.append_nil _).symm⟩, fun _ h => .inl h, gr.fresh, fun a h _ => h, fun a h => .inl (s3 a h), (gr.go (w := True) (C := C2) (O := O2)).back⟩
    refine ⟨C2, O3, M2, env3, st2, r1, fi3, e4, ?_⟩
    cases r1 with
    | nx env4 st4 => exact fun σ5 H5 C5 O5 M5 g5 fi5 => ⟨by omega, C5, O5, M5, env4, st4, g3.trans fi1.ci.tr g5, fi5, e2⟩
    | ct env4 st4 => exact fun σ5 H5 C5 O5 M5 g5 fi5 => ⟨by omega, C5, O5, M5, env4, st4, g3.trans fi1.ci.tr g5, fi5, e2⟩
    | bk env4 st4 =>
      cases e2
      exact fun σ5 H5 C5 O5 M5 g5 fi5 => q1 σ5 H5 C5 O5 M5 (g3.trans fi1.ci.tr g5) fi5
    | rt d4 st4 =>
      cases e2
      exact q1.from fi1 g3
/-! ### while -/
def whF (t : BS) (body : SS) : Nat → SS
  | 0, _, _ => none
  | n + 1, env, st => (t env st).bind fun x => if x.1 = true then (body x.2.1 x.2.2).bind fun r => match r with
      | .nx env2 st2 => whF t body n env2 st2
      | .ct env2 st2 => whF t body n env2 st2
      | .bk env2 st2 => some (.nx env2 st2)
      | .rt d st2 => some (.rt d st2)
    else some (.nx x.2.1 x.2.2)
theorem s1_while {c : Expr} {bs : List Stmt} {t : BS} (n : Nat) (hp : PassesOwn (model X.prog X.w) X.A X.env X.xe) (hc : ST X c t) (hb : SSs X bs body) : SS1 X (.While c bs [] pos) (whF t body n) := ps_weak (ps_while hp hc hb) fun N σ H ⟨C, O, M, env, st, r, fi, e, q⟩ => by
  refine ⟨fun m σ2 H2 => ∃ C2 O2 M2 env2 st2, Go True C O M H C2 O2 M2 H2 ∧ FI X.K C2 O2 M2 H2 σ2 env2 st2 ∧ whF t body m env2 st2 = some r, ⟨n, C, O, M, env, st, .refl, fi, e⟩, fun m σ2 H2 hW => ?_⟩
  obtain ⟨C2, O2, M2, env2, st2, g2, fi2, e2⟩ := hW
  cases m with
  | zero => cases e2
  | succ m =>
    unfold whF at e2
    rw [Option.bind_eq_some_iff] at e2
    obtain ⟨⟨b, env3, st3⟩, e3, e2⟩ := e2
    dsimp only at e2
    refine ⟨C2, O2, M2, env2, st2, b, env3, st3, fi2, e3, fun H3 C3 O3 M3 g3 fi3 => ?_⟩
    have g23 := g2.trans fi.ci.tr g3.weak
    cases b with
    | false =>
      rw [if_neg (by decide)] at e2
      cases e2
      exact iteF (q σ2 H3 C3 O3 M3 g23 fi3)
    | true =>
      rw [if_pos rfl] at e2
      rw [Option.bind_eq_some_iff] at e2
      obtain ⟨r1, e4, e2⟩ := e2
      refine iteT ⟨fun σ4 H4 => ∃ C4 O4 M4 env4 st4, Go True C O M H C4 O4 M4 H4 ∧ FI X.K C4 O4 M4 H4 σ4 env4 st4 ∧ whF t body m env4 st4 = some r, fun σ4 H4 h => ⟨m, Nat.lt_succ_self m, h⟩, C3, O3, M3, env3, st3, r1, fi3, e4, ?_⟩
      cases r1 with
      | nx env4 st4 => exact fun σ5 H5 C5 O5 M5 g5 fi5 => ⟨C5, O5, M5, env4, st4, g23.trans fi.ci.tr g5, fi5, e2⟩
      | ct env4 st4 => exact fun σ5 H5 C5 O5 M5 g5 fi5 => ⟨C5, O5, M5, env4, st4, g23.trans fi.ci.tr g5, fi5, e2⟩
      | bk env4 st4 =>
        cases e2
        exact fun σ5 H5 C5 O5 M5 g5 fi5 => q σ5 H5 C5 O5 M5 (g23.trans fi.ci.tr g5) fi5
      | rt d4 st4 =>
        cases e2
        exact FlOk.from (N := N) (r := .rt d4 st4) fi g23 q
end
end Pv

/-! # PvH -/
set_option Elab.async false
set_option linter.all false
set_option maxHeartbeats 1000000
/-! comprehensions -/
namespace Pv
open PySem L2
mutual
def D.of : D → Bool
  | .own _ => false
  | .tup l => D.ofs l
  | .lst _ => true | .non => true | .bl _ => true | .int _ => true | .str _ => true | .scr _ => true | .cell _ => true
def D.ofs : List D → Bool
  | [] => true
  | d :: l => d.of && D.ofs l
end
def wipeE (env : Env) : List Nat → Env
  | [] => env
  | v :: vs => (wipeE env vs).set v none
def restE (env1 env : Env) : List Nat → Env
  | [] => env
  | v :: vs => restE env1 (env.set v (env1.getD v none)) vs
def okAt (env : Env) : List Nat → Bool
  | [] => true
  | v :: vs => (match env[v]? with
    | some (some d) => d.of
    | some none => true
    | none => false) && okAt env vs
def compF (gs : GS) (t : BS) (fe : ES) (vs : List Nat) : List D → Env → Ms → Option (List D × Env × Ms)
  | [], env, st => some ([], env, st)
  | d :: ds, env, st => (gs d env).bind fun env1 => (t env1 st).bind fun x =>
    if x.1 = true then (fe x.2.1 x.2.2).bind fun y => (compF gs t fe vs ds (wipeE y.2.1 vs) y.2.2).map fun z => (y.1 :: z.1, z.2)
    else compF gs t fe vs ds (wipeE x.2.1 vs) x.2.2
def fComp (w : WS) (gs : GS) (t : BS) (fe : ES) (vs : List Nat) : ES := fun env st => (w env st).bind fun x => if okAt x.2.1 vs = true then
    (compF gs t fe vs x.1 (wipeE x.2.1 vs) x.2.2).bind fun z => if z.1.length ≤ BIG then some (.own z.1, restE x.2.1 z.2.1 vs, z.2.2) else none
  else none
section
variable {X : Cx} {K : PySem.W.Frag} {C C' O O' : List Addr} {M M' : Addr → Prop} {H H' : Hp} {st st' : Ms} {σ σ' : L2.St} {env env' : Env}
mutual
theorem RV.of : ∀ {v : V} {d : D} {os : List Addr}, RV K C M H v d os → d.of = true → os = []
  | _, _, _, .non, _ => rfl
  | _, _, _, .bl b, _ => rfl
  | _, _, _, .int i, _ => rfl
  | _, _, _, .str s, _ => rfl
  | _, _, _, .tup h r, q => r.of (by simpa only [D.of] using q)
  | _, _, _, .lst h r, q => rfl
  | _, _, _, .own h r, q => by simp only [D.of] at q; cases q
  | _, _, _, .cell h, q => rfl
  | _, _, _, .scr h, _ => rfl
theorem RVs.of : ∀ {vs : List V} {ds : List D} {os : List Addr}, RVs K C M H vs ds os → D.ofs ds = true → os = []
  | _, _, _, .nil, _ => rfl
  | _, _, _, .cons h r, q => by
    simp only [D.ofs, Bool.and_eq_true] at q
    rw [h.of q.1, r.of q.2]
    rfl
end
theorem wipe_wipe (σ : L2.St) (vs : List Nat) : ∀ us : List Nat, (∀ u ∈ us, u ∈ vs) → wipe (wipe σ us) vs = wipe σ vs
  | [], _ => rfl
  | u :: us, h => by
    show wipe ((wipe σ us).set u none) vs = wipe σ vs
    rw [wipe_at _ _ vs u (h u (List.mem_cons_self ..)), wipe_wipe σ vs us fun x hx => h x (List.mem_cons_of_mem _ hx)]
theorem wipe_get (σ : L2.St) {v : Nat} : ∀ {vs : List Nat}, v ∉ vs → (wipe σ vs)[v]? = σ[v]?
  | [], _ => rfl
  | u :: us, h => by
    show ((wipe σ us).set u none)[v]? = σ[v]?
    rw [List.getElem?_set_ne (fun z => h (by rw [z]; exact List.mem_cons_self ..)), wipe_get σ fun z => h (List.mem_cons_of_mem _ z)]
theorem FI.drop (fi : FI K C O M H σ env st) (i : Nat) (x : Option V) : ∃ O', FI K C O' M H (σ.set i x) (env.set i none) st ∧ ∀ a ∈ O', a ∈ O := by
  obtain ⟨O1, o0, O2, eo, z⟩ := fi.sl.drop i x
  have od := fi.od
  rw [eo] at od
  have sub : ∀ a ∈ O1 ++ O2, a ∈ O := fun a ha => by
    rw [eo]
    exact sub3 ha
  exact ⟨O1 ++ O2, ⟨fi.ci, z, (nd3 od).1, fun a ha => fi.oc a (sub a ha), fun a ha => fi.mO a (sub a ha)⟩, sub⟩
theorem FI.wiped (fi : FI K C O M H σ env st) : ∀ vs : List Nat, ∃ O', FI K C O' M H (wipe σ vs) (wipeE env vs) st ∧ ∀ a ∈ O', a ∈ O
  | [] => ⟨O, fi, fun _ h => h⟩
  | v :: vs => by
    obtain ⟨O1, f1, s1⟩ := FI.wiped fi vs
    obtain ⟨O2, f2, s2⟩ := f1.drop v none
    exact ⟨O2, f2, fun a h => s1 a (s2 a h)⟩
theorem set_self {α : Type} : ∀ (l : List α) (i : Nat) (x : α), l[i]? = some x → l.set i x = l
  | [], i, x, h => by simp at h
  | a :: l, 0, x, h => by
    simp only [List.getElem?_cons_zero, Option.some.injEq] at h
    subst h
    rfl
  | a :: l, i + 1, x, h => by
    simp only [List.getElem?_cons_succ] at h
    show a :: l.set i x = a :: l
    rw [set_self l i x h]
theorem FI.rest (env1 : Env) : ∀ (vs : List Nat) {O : List Addr} {env : Env}, vs.Nodup → FI K C O M H (wipe σ vs) env st → (∀ v ∈ vs, v < σ.length ∧ (env1[v]? = some none ∨ ∃ d x, env1[v]? = some (some d) ∧ σ[v]? = some (some x) ∧ RV K C M H x d [])) →
    ∃ O', FI K C O' M H σ (restE env1 env vs) st ∧ ∀ a ∈ O', a ∈ O
  | [], O, env, _, fi, _ => ⟨O, fi, fun _ h => h⟩
  | v :: vs, O, env, nd, fi, h => by
    obtain ⟨nv, nd⟩ := List.nodup_cons.mp nd
    obtain ⟨hl, hv⟩ := h v (List.mem_cons_self ..)
    have hlen : env.length = σ.length := by
      rw [← fi.sl.len, wipe_length]
    rcases hv with hv | ⟨d, x, hv, hx, rv⟩
    · obtain ⟨y, hy⟩ : ∃ y, σ[v]? = some y := ⟨σ[v], List.getElem?_eq_getElem hl⟩
      obtain ⟨O1, f1, s1⟩ := fi.drop v y
      have e1 : (wipe σ (v :: vs)).set v y = wipe σ vs := by
        show ((wipe σ vs).set v none).set v y = _
        rw [List.set_set, set_self _ _ _ ((wipe_get σ nv).trans hy)]
      rw [e1] at f1
      have e2 : env1.getD v none = none := by
        rw [List.getD_eq_getElem?_getD, hv]
        rfl
      obtain ⟨O2, f2, s2⟩ := FI.rest env1 vs nd f1 fun u hu => h u (List.mem_cons_of_mem _ hu)
      refine ⟨O2, ?_, fun a ha => s1 a (s2 a ha)⟩
      show FI K C O2 M H σ (restE env1 (env.set v (env1.getD v none)) vs) st
      rw [e2]
      exact f2
    · obtain ⟨O1, f1, s1⟩ := fi.set (i := v) (by rw [hlen]; exact hl) rv .nil fun a ha => nomatch ha
      have e1 : (wipe σ (v :: vs)).set v (some x) = wipe σ vs := by
        show ((wipe σ vs).set v none).set v (some x) = _
        rw [List.set_set, set_self _ _ _ ((wipe_get σ nv).trans hx)]
      rw [e1] at f1
      have e2 : env1.getD v none = some d := by
        rw [List.getD_eq_getElem?_getD, hv]
        rfl
      obtain ⟨O2, f2, s2⟩ := FI.rest env1 vs nd f1 fun u hu => h u (List.mem_cons_of_mem _ hu)
      refine ⟨O2, ?_, fun a ha => (s1 a (s2 a ha)).elim id fun z => nomatch z⟩
      show FI K C O2 M H σ (restE env1 (env.set v (env1.getD v none)) vs) st
      rw [e2]
      exact f2
theorem okAt_at : ∀ {vs : List Nat} {env : Env}, okAt env vs = true → ∀ v ∈ vs, env[v]? = some none ∨ ∃ d, env[v]? = some (some d) ∧ d.of = true
  | [], _, _, v, h => nomatch h
  | u :: us, env, h, v, hv => by
    simp only [okAt, Bool.and_eq_true] at h
    rcases List.mem_cons.mp hv with z | z
    · subst z
      have h1 := h.1
      split at h1
      · rename_i d e
        exact .inr ⟨d, e, h1⟩
      · rename_i e
        exact .inl e
      · cases h1
    · exact okAt_at h.2 v z
/-- a foreign list is written -/
theorem FI.fw (fi : FI K C O M H σ env st) {p : Addr} {xs : List V} (hm : M p) (hc : p ∉ C) (ho : p ∉ O) : FI K C O M (upd H p (.lst xs)) σ env st :=
  ⟨fi.ci.wr hc hm, fi.sl.mono (fun _ _ e => e) (fun a o h e => by rw [upd_ne (fun z => h (by rw [z]; exact hm))]; exact e) (fun _ _ h _ => h) fun a ha o e => by rw [upd_ne (fun z => ho (by rw [← z]; exact ha))]; exact e, fi.od, fi.oc, fi.mO⟩
variable {w : WS} {js vs : List Nat} {gs : GS} {t : BS} {fe : ES} {Q : VK}
theorem te_comp (hj : ∀ j ∈ js, j ∈ vs) (ndv : vs.Nodup) (h : tE K (fComp w gs t fe vs) σ H Q) : tLc (tI K w) (tG K js gs) (tT K t) (tE K fe) vs σ H Q := by
  obtain ⟨C, O, M, env, st, d, env', st', fi, e, q⟩ := h
  unfold fComp at e
  rw [Option.bind_eq_some_iff] at e
  obtain ⟨⟨ds, env1, st1⟩, e1, e⟩ := e
  dsimp only at e
  split at e
  · rename_i hok
    rw [Option.bind_eq_some_iff] at e
    obtain ⟨⟨ys, env3, st3⟩, ec, e⟩ := e
    dsimp only at e
    split at e
    · rename_i hbig
      cases e
      refine ⟨C, O, M, env, st, ds, env1, st1, fi, e1, fun J H1 C1 O1 M1 g1 fi1 it Dl hD => ?_⟩
      obtain ⟨Ob, fb, sb⟩ := fi1.wiped vs
      have nDC : Dl ∉ C1 := fi1.noC hD
      refine ⟨fun i m H2 => m + i = ds.length ∧ ∃ C2 O2 M2 env2 st2 acc accD os ysr, Go False C1 O1 M1 H1 C2 O2 M2 H2 ∧ FI K C2 O2 M2 H2 (wipe σ vs) env2 st2 ∧ H2 Dl = some (.lst acc) ∧ M2 Dl ∧ Dl ∉ C2 ∧ Dl ∉ O2 ∧
        RVs K C2 M2 H2 acc accD os ∧ os.Nodup ∧ (∀ a ∈ os, a ∉ C2 ∧ a ∉ O2 ∧ M2 a ∧ a ≠ Dl ∧ (a ∈ O1 ∨ H1 a = none)) ∧ compF gs t fe vs (ds.drop i) env2 st2 = some (ysr, env3, st') ∧ accD ++ ysr = ys, ⟨ds.length, rfl, ?_⟩, fun i m H2 hW => ?_⟩
      · have gr : Gr M1 H1 (fun a => M1 a ∨ a = Dl) (upd H1 Dl (.lst [])) := .own fi1.ci.tr hD
        exact ⟨C1, Ob, _, wipeE env1 vs, st1, [], [], [], ys, ⟨fun a o _ _ e => gr.keep a o e, ⟨[], (List.append_nil _).symm⟩, fun _ h => .inl h, gr.fresh, fun a h _ => gr.up a h, fun a h => .inl (sb a h), (gr.go (w := True) (C := C1) (O := O1)).back⟩, gr.fi fb, upd_same, .inr rfl, nDC, fun z => fi1.noO hD (sb _ z), .nil, .nil, (fun a ha => nomatch ha), ec, rfl⟩
      · obtain ⟨hm, C2, O2, M2, env2, st2, acc, accD, os, ysr, g2, fi2, hacc, mD, dC, dO, racc, ndo, no, e2, ey⟩ := hW
        obtain ⟨hstop, hgo⟩ := it C2 O2 M2 H2 g2.weak fi2.ci.tr i
        cases hd : ds[i]? with
        | none =>
          have hl : ds.length ≤ i := List.getElem?_eq_none_iff.mp hd
          rw [List.drop_eq_nil_of_le hl] at e2
          cases e2
          rw [List.append_nil] at ey
          subst ey
          refine .inl ⟨hstop hl, ?_⟩
          obtain ⟨O4, f4, s4⟩ := fi2.rest (σ := σ) env1 vs ndv fun v hv => by
            have hlt : v < σ.length := by
              rcases okAt_at hok v hv with z | ⟨d, z, _⟩
              · rw [fi1.sl.len]
                exact (List.getElem?_eq_some_iff.mp z).1
              · rw [fi1.sl.len]
                exact (List.getElem?_eq_some_iff.mp z).1
            refine ⟨hlt, ?_⟩
            rcases okAt_at hok v hv with z | ⟨d, z, hof⟩
            · exact .inl z
            · obtain ⟨x, o, s1, r, _⟩ := fi1.sl.get z
              obtain rfl := r.of hof
              exact .inr ⟨d, x, z, s1, g2.rv fi1.ci.mC r fun a ha => nomatch ha⟩
          have g4 : Go False C1 O1 M1 H1 C2 O4 M2 H2 := ⟨g2.keep, g2.pre, g2.newc, g2.fresh, g2.forn, fun a ha => g2.ownd a (s4 a ha), g2.back⟩
          refine q (.ref Dl) H2 C2 O4 M2 (Dl :: os) (g1.trans fi.ci.tr g4) f4 (.own hacc racc) (List.nodup_cons.mpr ⟨fun z => (no Dl z).2.2.2.1 rfl, ndo⟩) fun a ha => ?_
          rcases List.mem_cons.mp ha with z | z
          · subst z
            exact ⟨dC, fun z => dO (s4 _ z), mD, .inr (g1.back _ hD)⟩
          · obtain ⟨m1, m2, m3, _, m4⟩ := no a z
            refine ⟨m1, fun z => m2 (s4 _ z), m3, ?_⟩
            rcases m4 with w | w
            · exact g1.ownd a w
            · exact .inr (g1.back a w)
        | some d =>
          obtain ⟨hgo1, hy⟩ := hgo d hd
          have hlt : i < ds.length := (List.getElem?_eq_some_iff.mp hd).1
          have hdr : ds.drop i = d :: ds.drop (i + 1) := by
            rw [List.drop_eq_getElem_cons hlt, (List.getElem?_eq_some_iff.mp hd).2]
          rw [hdr] at e2
          unfold compF at e2
          rw [Option.bind_eq_some_iff] at e2
          obtain ⟨envA, e3, e2⟩ := e2
          rw [Option.bind_eq_some_iff] at e2
          obtain ⟨⟨b, envB, stB⟩, e4, e2⟩ := e2
          dsimp only at e2
          refine .inr ⟨hgo1, _, fun H' h => ⟨m - 1, Nat.sub_lt (by omega) Nat.zero_lt_one, h⟩, fun x H3 hx => ?_⟩
          obtain ⟨gr, rx⟩ := hy x H3 hx
          refine ⟨C2, O2, M2, env2, st2, d, envA, gr.fi fi2, rx, e3, fun σ3 O3 fi3 s3 w3 => ⟨(w3 vs hj).trans (wipe_wipe σ vs vs fun _ h => h), ?_⟩⟩
          have w3' : wipe σ3 vs = wipe σ vs := (w3 vs hj).trans (wipe_wipe σ vs vs fun _ h => h)
          have g3 : Go False C1 O1 M1 H1 C2 O3 M2 H3 := g2.trans fi1.ci.tr ⟨fun a o _ _ e => gr.keep a o e, ⟨[], (List.append_nil _).symm⟩, fun _ h => .inl h, gr.fresh, fun a h _ => h, fun a h => .inl (s3 a h), (gr.go (w := True) (C := C2) (O := O2)).back⟩
          refine ⟨C2, O3, M2, envA, st2, b, envB, stB, fi3, e4, fun H4 C4 O4 M4 g4 fi4 => ?_⟩
          have tD3 : H3 Dl = some (.lst acc) := gr.keep _ _ hacc
          have dO3 : Dl ∉ O3 := fun z => dO (s3 _ z)
          have tD4 : H4 Dl = some (.lst acc) := g4.keep _ _ dC (fun z => z.elim) tD3
          have mD4 : M4 Dl := g4.forn _ mD dO3
          have dC4 : Dl ∉ C4 := fun z => by
            rcases g4.newc0 _ z with w | w
            · exact dC w
            · rw [tD3] at w; cases w
          have dO4 : Dl ∉ O4 := fun z => by
            rcases g4.ownd _ z with w | w
            · exact dO3 w
            · rw [tD3] at w; cases w
          have t3 : ∀ a ∈ os, ∃ o, H3 a = some o := fun a ha => by
            obtain ⟨o, w⟩ := racc.otr a ha
            exact ⟨o, gr.keep _ _ w⟩
          have racc4 : RVs K C4 M4 H4 acc accD os := g4.rvs fi3.ci.mC (gr.rvs racc) fun a ha => (no a ha).1
          have no4 : ∀ a ∈ os, a ∉ C4 ∧ a ∉ O4 ∧ M4 a ∧ a ≠ Dl ∧ (a ∈ O1 ∨ H1 a = none) := fun a ha => by
            obtain ⟨m1, m2, m3, m4, m5⟩ := no a ha
            obtain ⟨o, w⟩ := t3 a ha
            refine ⟨fun z => ?_, fun z => ?_, g4.forn a m3 fun z => m2 (s3 a z), m4, m5⟩
            · rcases g4.newc0 a z with y | y
              · exact m1 y
              · rw [w] at y; cases y
            · rcases g4.ownd a z with y | y
              · exact m2 (s3 a y)
              · rw [w] at y; cases y
          have g34 := g3.trans fi1.ci.tr g4
          cases b with
          | false =>
            rw [if_neg (by decide)] at e2
            obtain ⟨O5, f5, s5⟩ := fi4.wiped vs
            rw [w3'] at f5
            refine iteF ⟨by omega, C4, O5, M4, wipeE envB vs, stB, acc, accD, os, ysr, ⟨g34.keep, g34.pre, g34.newc, g34.fresh, g34.forn, fun a ha => g34.ownd a (s5 a ha), g34.back⟩, f5, tD4, mD4, dC4, fun z => dO4 (s5 _ z), racc4, ndo, fun a ha => ?_, e2, ey⟩
            obtain ⟨m1, m2, m3, m4, m5⟩ := no4 a ha
            exact ⟨m1, fun z => m2 (s5 a z), m3, m4, m5⟩
          | true =>
            rw [if_pos rfl] at e2
            rw [Option.bind_eq_some_iff] at e2
            obtain ⟨⟨y, envC, stC⟩, e5, e2⟩ := e2
            rw [Option.map_eq_some_iff] at e2
            obtain ⟨⟨zs, env6, st6⟩, e6, e7⟩ := e2
            simp only [Prod.mk.injEq] at e7
            obtain ⟨e7, e8, e9⟩ := e7
            subst e7 e8 e9
            refine iteT ⟨C4, O4, M4, envB, stB, y, envC, stC, fi4, e5, fun v H5 C5 O5 M5 os5 g5 fi5 r5 nd5 n5 => ?_⟩
            have tD5 : H5 Dl = some (.lst acc) := g5.keep _ _ dC4 (fun z => z.elim) tD4
            have mD5 : M5 Dl := g5.forn _ mD4 dO4
            have dC5 : Dl ∉ C5 := fun z => by
              rcases g5.newc0 _ z with w | w
              · exact dC4 w
              · rw [tD4] at w; cases w
            have dO5 : Dl ∉ O5 := fun z => by
              rcases g5.ownd _ z with w | w
              · exact dO4 w
              · rw [tD4] at w; cases w
            have t4 : ∀ a ∈ os, ∃ o, H4 a = some o := fun a ha => racc4.otr a ha
            have racc5 : RVs K C5 M5 H5 acc accD os := g5.rvs fi4.ci.mC racc4 fun a ha => (no4 a ha).1
            have no5 : ∀ a ∈ os, a ∉ C5 ∧ a ∉ O5 ∧ M5 a ∧ a ≠ Dl ∧ (a ∈ O1 ∨ H1 a = none) := fun a ha => by
              obtain ⟨m1, m2, m3, m4, m5⟩ := no4 a ha
              obtain ⟨o, w⟩ := t4 a ha
              refine ⟨fun z => ?_, fun z => ?_, g5.forn a m3 m2, m4, m5⟩
              · rcases g5.newc0 a z with y | y
                · exact m1 y
                · rw [w] at y; cases y
              · rcases g5.ownd a z with y | y
                · exact m2 y
                · rw [w] at y; cases y
            have g45 := g34.trans fi1.ci.tr g5
            obtain ⟨O6, f6, s6⟩ := fi5.wiped vs
            rw [w3'] at f6
            have hlen : acc.length < sizeLine := by
              rw [racc.len]
              have : accD.length ≤ ys.length := by
                rw [← ey, List.length_append]
                exact Nat.le_add_right _ _
              exact big_lt (Nat.le_trans this hbig)
            have nv5 : ∀ a ∈ os5, a ≠ Dl := fun a ha z => by
              subst z
              rcases (n5 _ ha).2.2.2 with w | w
              · exact dO4 w
              · rw [tD4] at w; cases w
            have k5 : ∀ a o, ¬ M5 a → H5 a = some o → upd H5 Dl (.lst (acc ++ [v])) a = some o := fun a o h e => by rw [upd_ne (fun z => h (by rw [z]; exact mD5))]; exact e
            refine ⟨acc, tD5, hlen, by omega, C5, O6, M5, wipeE envC vs, stC, acc ++ [v], accD ++ [y], os ++ os5, zs, ⟨fun a o h1 _ h3 => ?_, g45.pre, g45.newc, g45.fresh, g45.forn, fun a ha => g45.ownd a (s6 a ha), fun a ha => ?_⟩, f6.fw mD5 dC5 fun z => dO5 (s6 _ z), upd_same, mD5, dC5, fun z => dO5 (s6 _ z), ?_, ?_, fun a ha => ?_, e6, ?_⟩
            · rw [upd_ne fun z => ?_]
              · exact g45.keep a o h1 (fun z => z.elim) h3
              · subst z
                rw [hD] at h3; cases h3
            · by_cases z : a = Dl
              · subst z
                exact hD
              · rw [upd_ne z] at ha
                exact g45.back a ha
            · exact (racc5.mono (fun _ _ e => e) k5 (fun _ _ h _ => h) fun a ha o e => by rw [upd_ne (no5 a ha).2.2.2.1]; exact e).app (RVs.one (r5.mono (fun _ _ e => e) k5 (fun _ _ h _ => h) fun a ha o e => by rw [upd_ne (nv5 a ha)]; exact e))
            · rw [List.nodup_append]
              refine ⟨ndo, nd5, fun a ha b hb z => ?_⟩
              subst z
              rcases (n5 a hb).2.2.2 with w | w
              · exact (no4 a ha).2.1 w
              · obtain ⟨o, y⟩ := t4 a ha
                rw [y] at w; cases w
            · rcases List.mem_append.mp ha with z | z
              · obtain ⟨m1, m2, m3, m4, m5⟩ := no5 a z
                exact ⟨m1, fun z => m2 (s6 a z), m3, m4, m5⟩
              · obtain ⟨m1, m2, m3, m4⟩ := n5 a z
                refine ⟨m1, fun z => m2 (s6 a z), m3, nv5 a z, ?_⟩
                rcases m4 with w | w
                · exact g34.ownd a w
                · exact .inr (g34.back a w)
            · rw [List.append_assoc]
              exact ey
    · cases e
  · cases e
end
end Pv

/-! # PvI -/
set_option Elab.async false
set_option linter.all false
set_option maxHeartbeats 1000000
/-! defs and their calls; no recursion guard stands around -/
namespace Pv
open PySem PySem.Spec PyProof.Rows L2
section
variable {X : Cx} {e c elt tg iter ex : Expr} {es ifs : List Expr} {pos : Pos} {w : WS} {js : List Nat} {gs : GS} {t : BS} {fe : ES} {fs : AS}
def STs (X : Cx) (ifs : List Expr) (t : BS) : Prop := PTs X ifs (tT X.K t)
def bYes : BS := fun env st => some (true, env, st)
theorem sts_nil : STs X [] bYes := ⟨fun pins s σ H Q I ⟨C, O, M, env, st, b, env', st', fi, e, q⟩ => by
  cases e
  exact pts_nil.run pins s σ H Q I (q H C O M .refl fi)⟩
theorem sts_one (h : ST X c t) : STs X [c] t := pts_one h
theorem se_lc {scope : Scope} {own : List (Str × Nat)} (hc : X.calm = true) (hN : X.N.Nodup) (hi : SI X tg iter w) (ok : blkC X.N X.env.scope scope own = true) (hj : js.all (fun j => (own.map (·.2)).contains j) = true) (ndv : (own.map (·.2)).Nodup)
    (hg : ∀ (s : Shared) (H : Hp) (C : Addr) (cl : List (Str × Addr)) (fp : List Addr), SG (X.blk s H scope (compEnvC scope cl C X.env) fp) tg js gs)
    (ht : ∀ (s : Shared) (H : Hp) (C : Addr) (cl : List (Str × Addr)) (fp : List Addr), STs (X.blk s H scope (compEnvC scope cl C X.env) fp) ifs t)
    (he : ∀ (s : Shared) (H : Hp) (C : Addr) (cl : List (Str × Addr)) (fp : List Addr), SE (X.blk s H scope (compEnvC scope cl C X.env) fp) elt fe) (hs : ∀ x, foldedSetIterable iter X.env x = pure x := by intro _; rfl) :
    SE X (.ListComp elt [⟨tg, iter, ifs, 0⟩] scope pos) (fComp w gs t fe (own.map (·.2))) := pe_weak (pe_lc (g := tG X.K js gs) (tt := tT X.K t) (te := tE X.K fe) hc hN hi (blkOk_by ok) hg ht he hs) fun σ H Q h => te_comp (fun j hm => by
      have := List.all_eq_true.mp hj j hm
      exact List.contains_iff_mem.mp this) ndv h
/-- y = [..], y a local -/
theorem s1_asgLc {i : Nat} {y : Str} {py spos : Pos} {scope : Scope} {own : List (Str × Nat)} (hc : X.calm = true) (hN : X.N.Nodup) (hy : X.N[i]? = some y) (hyl : X.env.scope.names.lookup y = some .local)
    (hsw : swapsWith (.ListComp elt [⟨tg, iter, ifs, 0⟩] scope pos) (some (.Name y py)) spos.line X.env = pure true) (hi : SI X tg iter w) (ok : blkC X.N X.env.scope scope own = true) (hj : js.all (fun j => (own.map (·.2)).contains j) = true) (ndv : (own.map (·.2)).Nodup)
    (hg : ∀ (s : Shared) (H : Hp) (C : Addr) (cl : List (Str × Addr)) (fp : List Addr), SG (X.blk s H scope (compEnvC scope cl C X.env) fp) tg js gs)
    (ht : ∀ (s : Shared) (H : Hp) (C : Addr) (cl : List (Str × Addr)) (fp : List Addr), STs (X.blk s H scope (compEnvC scope cl C X.env) fp) ifs t)
    (he : ∀ (s : Shared) (H : Hp) (C : Addr) (cl : List (Str × Addr)) (fp : List Addr), SE (X.blk s H scope (compEnvC scope cl C X.env) fp) elt fe) (hs : ∀ x, foldedSetIterable iter X.env x = pure x := by intro _; rfl) :
    SS1 X (.Assign [.Name y py] (.ListComp elt [⟨tg, iter, ifs, 0⟩] scope pos) spos) (sAsg i (fComp w gs t fe (own.map (·.2)))) :=
  ps_weak (ps_setLc (g := tG X.K js gs) (tt := tT X.K t) (te := tE X.K fe) hc hN hy hyl hsw hi (blkOk_by ok) hg ht he hs) fun _ _ _ h => ts_asg (fun σ H Q h => te_comp (fun j hm => List.contains_iff_mem.mp (List.all_eq_true.mp hj j hm)) ndv h) h
end

/-! ### what a def promises -/
abbrev FS := List D → Ms → Option (D × Ms)
def spM (K : PySem.W.Frag) (m : FS) : Sp := fun vs H Q _ => ∃ C M st ds r st', CI K C M H st ∧ RVs K C M H vs ds [] ∧ m ds st = some (r, st') ∧
  ∀ v H' M' os, Go False C [] M H C [] M' H' → CI K C M' H' st' → RV K C M' H' v r os → os.Nodup → (∀ a ∈ os, M' a ∧ H a = none) → Q v H'
def fin (st : Ms) (r : D) (st' : Ms) : Option (D × Ms) := if st'.length = st.length then some (r, st') else if r.nc = true ∧ st.length ≤ st'.length then some (r, st'.take st.length) else none
def mkFn (n np : Nat) (body : SS) : FS := fun ds st => if ds.length = np then match body (ds.map some ++ List.replicate (n - np) none) st with
    | some (.rt r st') => fin st r st'
    | some (.nx _ st') => fin st .non st'
    | _ => none
  else none
structure FnG (P : Program) (w : World) (K : PySem.W.Frag) (mg : Str → Option Value) (base : Heap) (k : Nat) (f : Addr) (fd : FuncData) (ps : List Str) (sp : Sp) : Prop where
  len : ∀ vs H Q E, sp vs H Q E → vs.length = ps.length
  run : ∀ (A : Around) (outer : List PySem.Env) (s : Shared) (H : Hp) (args : Args) (us : List Value) (vs : List V) (Q : VK) (E : XK), Room k A → A.guards = some [] → Env0 P w K mg base A outer s H →
    BindsTo s fd args (ps.zip us) → Vals vs us → sp vs H Q E → codeAny (model P w) A (.call (.ref f) args) (CR CX0 outer P w H s Q E) s
section
variable {P : Program} {w : World} {K : PySem.W.Frag} {mg : Str → Option Value} {base : Heap}
theorem FnG.up {j k : Nat} {f : Addr} {fd : FuncData} {ps : List Str} {sp : Sp} (F : FnG P w K mg base j f fd ps sp) (h : j ≤ k) : FnG P w K mg base k f fd ps sp := ⟨F.len, fun A outer s H args us vs Q E hr => F.run A outer s H args us vs Q E (hr.mono h)⟩
/-- a def of the text, by its body -/
theorem fnG_of {x qual : Str} {sd : Stmt} {f : Addr} {fd : FuncData} {N ps : List Str} {k : Nat} {sp : Sp} (F : Fun K x qual sd f fd) (S : FnScope N ps (defScope sd)) (len : ∀ vs H Q E, sp vs H Q E → vs.length = ps.length)
    (hbody : ∀ (cdv : Value) (A : Around) (outer : List PySem.Env) (s : Shared) (H : Hp) (vs : List V) (Q : VK) (E : XK), A.guards = some [] → Room k (A.deeper (envOfC qual (defScope sd) s.heap.objs.size f cdv)) → sp vs H Q E →
      ∃ t, PSs (cxOf CX0 P w K mg base N qual (defScope sd) f cdv A outer s H E).nox (defBody sd) t ∧ t { nx := fun _ H' => Q .non H', rt := Q } (L2.start N vs) H) : FnG P w K mg base (k + 1) f fd ps sp := by
  obtain ⟨oc, od, kV, doc, pm, an, cdv, ct, osl, rfl, lk, hcd⟩ := F.ex
  refine ⟨len, fun A outer s H args us vs Q E hr hgd e0 hb r hsp => ?_⟩
  have hvl := len _ _ _ _ hsp
  have KX : K.In s.heap := e0.mod.kin.keeps fun b o e => (e0.bs b o e).1
  have NL : s.heap.NoLimit := e0.mod.nolimit.keeps fun b o e => (e0.bs b o e).1
  have kinds : ∀ y ∈ ps.zip us, (defScope sd).names.lookup y.1 = some .local ∨ ((defScope sd).names.lookup y.1 = some .cell ∧ ((cellsFrom (s.heap.objs.size + 1) (defScope sd).names []).lookup y.1).isSome = true) := by
    rintro ⟨n, v⟩ hy
    rcases S.par n (List.of_mem_zip hy).1 with q | q
    · exact .inl q
    · exact .inr ⟨q, PySem.W.cellsFrom_some _ _ _ (.inl q)⟩
  refine codeAny_call_function hr.depth (KX _ _ lk) rfl S.co S.gen rfl (PySem.W.codeRec_of KX hcd) (hb _ _ _ _ ?_)
  refine wpAny_newFunctionEnv_cells S.kind kinds fun env he s1 x => ?_
  subst he
  refine ⟨NL.keeps x.toInCall.keep, codeAny_func ?_⟩
  obtain ⟨t, ht, hq⟩ := hbody cdv A outer s H vs Q E hgd (hr.deeper _) hsp
  have I : Inv (cxOf CX0 P w K mg base N qual (defScope sd) f cdv A outer s H E) [] (L2.start N vs) H s1 := inv_start S hr.hd e0 hvl r x
  refine wpAny_mono (ht.nox.run [] s1 (L2.start N vs) H _ I hq) (fun fl s' hs => ?_) fun e s' hs => hs
  cases fl with
  | ret u =>
    obtain ⟨v, σ', H', J, rv, q⟩ := hs
    exact ⟨v, H', J.os, J.bare, J.base, J.hok, rv, q⟩
  | next =>
    obtain ⟨σ', H', J, q⟩ := hs
    exact ⟨V.non, H', J.os, J.bare, J.base, J.hok, (rfl : Value.none = Value.none), q⟩
  | brk =>
    obtain ⟨_, _, _, q⟩ := hs
    exact False.elim q
  | cont =>
    obtain ⟨_, _, _, q⟩ := hs
    exact False.elim q
theorem rsl_nones {C : List Addr} {M : Addr → Prop} {H : Hp} : ∀ n : Nat, RSl K C M H (List.replicate n none) (List.replicate n none) []
  | 0 => .nil
  | n + 1 => .no (rsl_nones n)
theorem rsl_start {C : List Addr} {M : Addr → Prop} {H : Hp} {n : Nat} : ∀ {vs : List V} {ds : List D} {os : List Addr}, RVs K C M H vs ds os → os = [] → RSl K C M H (vs.map some ++ List.replicate n none) (ds.map some ++ List.replicate n none) []
  | _, _, _, .nil, _ => rsl_nones n
  | _, _, _, .cons h r, e => by
    obtain ⟨e1, e2⟩ := List.append_eq_nil_iff.mp e
    subst e1 e2
    exact RSl.so (o := []) (O := []) h (rsl_start r rfl)
theorem fin_ok {C C' O' : List Addr} {M M' : Addr → Prop} {H H' : Hp} {st st1 st' : Ms} {d r : D} {v : V} {os : List Addr} {Q : VK} (ci : CI K C M H st) (hf : fin st d st1 = some (r, st')) (g : Go True C [] M H C' O' M' H') (ci' : CI K C' M' H' st1) (rv : RV K C' M' H' v d os) (nd : os.Nodup) (n : ∀ a ∈ os, M' a ∧ H a = none)
    (q : ∀ v H' M' os, Go False C [] M H C [] M' H' → CI K C M' H' st' → RV K C M' H' v r os → os.Nodup → (∀ a ∈ os, M' a ∧ H a = none) → Q v H') : Q v H' := by
  have g2 : Go False C [] M H C [] M' H' := ⟨fun a o h1 _ h3 => g.keep a o h1 (fun _ z => nomatch z) h3, ⟨[], (List.append_nil C).symm⟩, fun _ h => .inl h, g.fresh, g.forn, (fun _ h => nomatch h), g.back⟩
  obtain ⟨C1, eC⟩ := g.pre
  unfold fin at hf
  split at hf
  · rename_i hl
    cases hf
    have e : C' = C := by
      have h1 := ci'.len
      rw [hl, ci.len, eC, List.length_append] at h1
      have : C1 = [] := List.length_eq_zero_iff.mp (by omega)
      rw [eC, this, List.append_nil]
    subst e
    exact q v H' M' os g2 ci' rv nd n
  · split at hf
    · rename_i h2
      cases hf
      refine q v H' M' os g2 ⟨by rw [List.length_take, Nat.min_eq_left h2.2]; exact ci.len, fun i ds p e1 e2 => ?_, ci.nd, fun p hp => ci'.mC p (by rw [eC]; exact List.mem_append_left _ hp), ci'.tr⟩ (rv.free h2.1) nd n
      have hi : i < C.length := (List.getElem?_eq_some_iff.mp e2).1
      rw [List.getElem?_take_of_lt (by rw [ci.len]; exact hi)] at e1
      exact ci'.at_ i ds p e1 (by rw [eC, List.getElem?_append_left hi]; exact e2)
    · cases hf
/-- THE RULE -/
theorem fn_mk {x qual : Str} {sd : Stmt} {f : Addr} {fd : FuncData} {N ps : List Str} {k : Nat} {body : SS} (F : Fun K x qual sd f fd) (S : FnScope N ps (defScope sd)) (hpn : ps.length ≤ N.length)
    (hbody : ∀ (cdv : Value) (A : Around) (outer : List PySem.Env) (s : Shared) (H : Hp) (E : XK), A.guards = some [] → Room k (A.deeper (envOfC qual (defScope sd) s.heap.objs.size f cdv)) → SSs (cxOf CX0 P w K mg base N qual (defScope sd) f cdv A outer s H E).nox (defBody sd) body) :
    FnG P w K mg base (k + 1) f fd ps (spM K (mkFn N.length ps.length body)) := by
  refine fnG_of F S (fun vs H Q E h => ?_) fun cdv A outer s H vs Q E hgd hr h => ?_
  · obtain ⟨C, M, st, ds, r, st', ci, rv, e, q⟩ := h
    unfold mkFn at e
    split at e
    · rename_i hl
      exact rv.len.trans hl
    · cases e
  · obtain ⟨C, M, st, ds, r, st', ci, rv, e, q⟩ := h
    refine ⟨_, hbody cdv A outer s H E hgd hr, ?_⟩
    unfold mkFn at e
    split at e
    · rename_i hl
      have hvl : vs.length = ps.length := rv.len.trans hl
      have fi : FI K C [] M H (L2.start N vs) (ds.map some ++ List.replicate (N.length - ps.length) none) st := by
        refine ⟨ci, ?_, .nil, (fun a z => nomatch z), (fun a z => nomatch z)⟩
        unfold L2.start
        rw [hvl]
        exact rsl_start rv rfl
      split at e
      · rename_i d st1 e1
        refine ⟨C, [], M, _, st, _, fi, e1, fun v H' C' O' M' os g ci' rv' nd n => fin_ok ci e g ci' rv' nd (fun a ha => ?_) q⟩
        obtain ⟨_, m2, m3⟩ := n a ha
        exact ⟨m2, m3.elim (fun z => nomatch z) id⟩
      · rename_i env1 st1 e1
        refine ⟨C, [], M, _, st, _, fi, e1, fun σ' H' C' O' M' g fi' => fin_ok (os := []) ci e g fi'.ci .non .nil (fun a ha => nomatch ha) q⟩
      · cases e
    · cases e
end

/-! ### calls -/
section
variable {X : Cx} {k : Nat} {f : Addr} {fd : FuncData} {ps ks : List Str} {sp : Sp} {x : Str} {p pos : Pos} {e : Expr} {es : List Expr} {kws : List Keyword} {ta tk : TA} {m : FS} {fs fk : AS}
theorem run_G {pins : List (Addr × Obj)} {σ : L2.St} {H : Hp} {s : Shared} {Q : VK} {us : List Value} {kw : List (Str × Value)} {zs : List Value} {vs : List V} (F : FnG X.prog X.w X.K X.mg X.base k f fd ps sp) (hr : Room k X.A) (hgd : X.A.guards = some [])
    (hb : BindsTo s fd ⟨us, kw⟩ (ps.zip zs)) (I : Inv X pins σ H s) (r : Vals vs zs) (h : sp vs H Q E0) : wpAny (model X.prog X.w) X.A (call (.ref f) us kw) (EP X pins σ Q) X.xe s := by
  refine wpAny_call (codeAny_mono (F.run X.A X.stack s H ⟨us, kw⟩ zs vs Q E0 hr hgd I.env0 hb r h) fun r s' hq => ?_)
  cases r with
  | error e => exact hq.elim
  | ok fl =>
    cases fl with
    | ret u => exact I.after hq
    | next => exact False.elim hq
    | brk => exact False.elim hq
    | cont => exact False.elim hq
theorem pe_callG (F : FnG X.prog X.w X.K X.mg X.base k f fd ps sp) (hr : Room k X.A) (hgd : X.A.guards = some []) (hg : Gl X x) (hm : X.mg x = some (.ref f)) (hk : PySem.W.keepIn X.K (.ref f) = true) (hb : Binds X.K fd ps []) (ha : PA X (e :: es) ta)
    (hdb : (x == ("__debug__" : Str)) = false := by decide) (he : starEach (e :: es) X.env = (false, eval e X.env) :: starEach es X.env := by rfl) (hpl : (backTo pos (starEach es X.env)).any (·.1) = false := by rfl) :
    PE X (.Call (.Name x p) (e :: es) [] pos) (fun σ H Q => ta σ H fun vs H1 => sp vs H1 Q E0) := by
  refine ⟨fun pins s σ H Q I h => wpAny_Call_Name_kw (ld_glob I hg hm ?_ hdb)⟩
  refine PySem.W.callWith_K (h₀ := X.base) I.ok.mod.kin hk (thn (ha.run pos pins s σ H _ I h) fun us s1 ⟨vs, H1, I1, r, q⟩ => ⟨I1.kIn, ?_⟩) he hpl
  have hl : (us ++ []).length = ps.length := by rw [List.append_nil, ← r.length]; exact F.len _ _ _ _ q
  have hb' := hb s1 us I1.kIn hl
  rw [List.append_nil] at hb'
  exact run_G F hr hgd hb' I1 r q
/-- how keywords bind: pm puts the positional and the keywords' values in the parameters' order -/
structure KB (K : PySem.W.Frag) (fd : FuncData) (ps ks : List Str) (n : Nat) (pm : {α : Type} → List α → List α → List α) : Prop where
  to : ∀ (s : Shared) (us ws : List Value), K.In s.heap → us.length = n → ws.length = ks.length → BindsTo s fd ⟨us, ks.zip ws⟩ (ps.zip (pm us ws))
  rel : ∀ {α β : Type} (R : α → β → Prop) {vs zs : List α} {us ws : List β}, vs.length = n → zs.length = ks.length → Paired R vs us → Paired R zs ws → Paired R (pm vs zs) (pm us ws)
theorem pe_callKG {n : Nat} {pm : {α : Type} → List α → List α → List α} (F : FnG X.prog X.w X.K X.mg X.base k f fd ps sp) (hr : Room k X.A) (hgd : X.A.guards = some []) (hg : Gl X x) (hm : X.mg x = some (.ref f)) (hk : PySem.W.keepIn X.K (.ref f) = true) (hb : KB X.K fd ps ks n pm)
    (ha : PA X (e :: es) ta) (hkw : PK X kws tk) (hall : (backToKw pos (keywordEach kws X.env)).all (·.1.isSome) = true := by rfl) (hks : (backToKw pos (keywordEach kws X.env)).filterMap (·.1) = ks := by rfl)
    (hdb : (x == ("__debug__" : Str)) = false := by decide) (he : starEach (e :: es) X.env = (false, eval e X.env) :: starEach es X.env := by rfl)
    (hpl : ((backTo pos (starEach (e :: es) X.env)).any (·.1) || (backToKw pos (keywordEach kws X.env)).any (·.1.isNone)) = false := by rfl) :
    PE X (.Call (.Name x p) (e :: es) kws pos) (fun σ H Q => ta σ H fun vs H1 => tk σ H1 fun zs H2 => vs.length = n ∧ zs.length = ks.length ∧ sp (pm vs zs) H2 Q E0) := by
  refine ⟨fun pins s σ H Q I h => wpAny_Call_Name_kw (ld_glob I hg hm ?_ hdb)⟩
  refine PySem.W.callWith_KW (h₀ := X.base) I.ok.mod.kin hk hall (thn (ha.run pos pins s σ H _ I h) fun us s1 ⟨vs, H1, I1, r, q⟩ => ?_) hpl he
  refine thn (hkw.run pos pins s1 σ H1 _ I1 q) fun ws s2 ⟨zs, H2, I2, rz, l1, l2, q2⟩ => ⟨I2.kIn, ?_⟩
  rw [hks]
  exact run_G F hr hgd (hb.to s2 us ws I2.kIn (r.length.symm.trans l1) (rz.length.symm.trans l2)) I2 (hb.rel RelV l1 l2 r rz) q2
theorem pe_callKG0 {pm : {α : Type} → List α → List α → List α} (F : FnG X.prog X.w X.K X.mg X.base k f fd ps sp) (hr : Room k X.A) (hgd : X.A.guards = some []) (hg : Gl X x) (hm : X.mg x = some (.ref f)) (hk : PySem.W.keepIn X.K (.ref f) = true) (hb : KB X.K fd ps ks 0 pm)
    (hkw : PK X kws tk) (hall : (backToKw pos (keywordEach kws X.env)).all (·.1.isSome) = true := by rfl) (hks : (backToKw pos (keywordEach kws X.env)).filterMap (·.1) = ks := by rfl)
    (hdb : (x == ("__debug__" : Str)) = false := by decide)
    (hpl : ((backTo pos (starEach [] X.env)).any (·.1) || (backToKw pos (keywordEach kws X.env)).any (·.1.isNone)) = false := by rfl) :
    PE X (.Call (.Name x p) [] kws pos) (fun σ H Q => tk σ H fun zs H2 => zs.length = ks.length ∧ sp (pm [] zs) H2 Q E0) := by
  refine ⟨fun pins s σ H Q I h => wpAny_Call_Name_kw (ld_glob I hg hm ?_ hdb)⟩
  refine PySem.W.callWith_KW0 (h₀ := X.base) I.ok.mod.kin hk hall ?_ hpl
  refine thn (hkw.run pos pins s σ H _ I h) fun ws s2 ⟨zs, H2, I2, rz, l2, q2⟩ => ⟨I2.kIn, ?_⟩
  rw [hks]
  exact run_G F hr hgd (hb.to s2 [] ws I2.kIn rfl (rz.length.symm.trans l2)) I2 (hb.rel RelV rfl l2 .nil rz) q2
def fCall (m : FS) (fs : AS) : ES := fun env st => (fs env st).bind fun x => (m x.1 x.2.2).map fun y => (y.1, x.2.1, y.2)
theorem call_done {K : PySem.W.Frag} {C O C1 O1 : List Addr} {M M1 M2 : Addr → Prop} {H H1 H2 : Hp} {σ : L2.St} {env env1 : Env} {st st1 st2 : Ms} {r : D} {v : V} {os : List Addr} {Q : VK} (fi : FI K C O M H σ env st) (g1 : Go False C O M H C1 O1 M1 H1) (fi1 : FI K C1 O1 M1 H1 σ env1 st1)
    (q : ∀ v H' C' O' M' os, Go False C O M H C' O' M' H' → FI K C' O' M' H' σ env1 st2 → RV K C' M' H' v r os → os.Nodup → (∀ a ∈ os, a ∉ C' ∧ a ∉ O' ∧ M' a ∧ (a ∈ O ∨ H a = none)) → Q v H')
    (g : Go False C1 [] M1 H1 C1 [] M2 H2) (ci : CI K C1 M2 H2 st2) (rv : RV K C1 M2 H2 v r os) (nd : os.Nodup) (n : ∀ a ∈ os, M2 a ∧ H1 a = none) : Q v H2 := by
  have up : ∀ a, M1 a → M2 a := fun a h => g.forn a h (fun z => nomatch z)
  have g2 : Go False C1 O1 M1 H1 C1 O1 M2 H2 := ⟨fun a o h1 _ h3 => g.keep a o h1 (fun z => z.elim) h3, ⟨[], (List.append_nil _).symm⟩, fun _ h => .inl h, g.fresh, fun a h _ => up a h, fun _ h => .inl h, g.back⟩
  have f2 : FI K C1 O1 M2 H2 σ env1 st2 := ⟨ci, fi1.sl.mono (fun _ _ e => e) (fun a o h e => g.keep a o (fun z => h (fi1.ci.mC a z)) (fun z => z.elim) e) (fun a o h e z => by
    rcases g.fresh a z with y | y
    · exact h y
    · rw [e] at y; cases y) fun a ha o e => g.keep a o (fi1.oc a ha) (fun z => z.elim) e, fi1.od, fi1.oc, fun a h => up a (fi1.mO a h)⟩
  exact q v H2 C1 O1 M2 os (g1.trans fi.ci.tr g2) f2 rv nd fun a ha => ⟨fi1.noC (n a ha).2, fi1.noO (n a ha).2, (n a ha).1, .inr (g1.back a (n a ha).2)⟩
theorem se_call (F : FnG X.prog X.w X.K X.mg X.base k f fd ps (spM X.K m)) (hr : Room k X.A) (hgd : X.A.guards = some []) (hg : Gl X x) (hm : X.mg x = some (.ref f)) (hk : PySem.W.keepIn X.K (.ref f) = true) (hb : Binds X.K fd ps []) (ha : SZs X (e :: es) fs)
    (hdb : (x == ("__debug__" : Str)) = false := by decide) (he : starEach (e :: es) X.env = (false, eval e X.env) :: starEach es X.env := by rfl) (hpl : (backTo pos (starEach es X.env)).any (·.1) = false := by rfl) :
    SE X (.Call (.Name x p) (e :: es) [] pos) (fCall m fs) := pe_weak (pe_callG F hr hgd hg hm hk hb ha hdb he hpl) fun σ H Q ⟨C, O, M, env, st, d, env', st', fi, e, q⟩ => by
  unfold fCall at e
  rw [Option.bind_eq_some_iff] at e
  obtain ⟨⟨ds, env1, st1⟩, e1, e⟩ := e
  rw [Option.map_eq_some_iff] at e
  obtain ⟨⟨r, st2⟩, e2, e⟩ := e
  simp only [Prod.mk.injEq] at e
  obtain ⟨e3, e4, e5⟩ := e
  subst e3 e4 e5
  exact ⟨C, O, M, env, st, ds, env1, st1, fi, e1, fun vs H1 C1 O1 M1 g1 fi1 rv1 => ⟨C1, M1, st1, ds, r, st2, fi1.ci, rv1, e2, fun v H2 M2 os g ci rv nd n => call_done fi g1 fi1 q g ci rv nd n⟩⟩
end
end Pv

/-! # PvJ -/
set_option Elab.async false
set_option linter.all false
set_option maxHeartbeats 1000000
/-! operations -/
namespace Pv
open PySem PySem.Spec PyProof.Rows L2
/-- a list's items, whoever owns it -/
def D.li : D → Option (List D)
  | .lst l => some l
  | .own l => if D.ofs l = true then some l else none
  | _ => none
section
variable {X : Cx} {K : PySem.W.Frag} {C : List Addr} {M : Addr → Prop} {H : Hp} {st : Ms} {v v1 v2 : V} {d d1 d2 : D} {o o1 o2 : List Addr} {Q : VK}
theorem li_ok {l : List D} (h : d.li = some l) (r : RV K C M H v d o) : ∃ p xs, v = .ref p ∧ H p = some (.lst xs) ∧ RVs K C M H xs l [] := by
  cases r with
  | @lst p xs _ h1 r1 =>
    simp only [D.li, Option.some.injEq] at h
    subst h
    exact ⟨p, xs, rfl, h1.1, r1⟩
  | @own p xs _ o2 h1 r1 =>
    simp only [D.li] at h
    split at h
    · rename_i hf
      cases h
      obtain rfl := r1.of hf
      exact ⟨p, xs, rfl, h1, r1⟩
    · cases h
  | non => cases h
  | bl => cases h
  | int => cases h
  | str => cases h
  | tup => cases h
  | cell => cases h
  | scr => cases h
/-- a new list, a new tuple, as answers -/
theorem ans_new {l : List D} {xs : List V} {p : Addr} (ci : CI K C M H st) (r : RVs K C M H xs l []) (q : Ans K C M H (.own l) Q) (hp : H p = none) : Q (.ref p) (upd H p (.lst xs)) := by
  have gr : Gr M H (fun a => M a ∨ a = p) (upd H p (.lst xs)) := .own ci.tr hp
  exact q _ _ _ [p] gr (.own upd_same (gr.rvs r)) (by simp) fun a ha => by
    have e : a = p := by simpa using ha
    subst e
    exact ⟨.inr rfl, hp⟩
theorem ans_tup {l : List D} {xs : List V} {p : Addr} (ci : CI K C M H st) (r : RVs K C M H xs l []) (q : Ans K C M H (.tup l) Q) (hp : H p = none) : Q (.ref p) (upd H p (.tup xs)) := by
  have gr : Gr M H M (upd H p (.tup xs)) := .tup ci.tr hp
  exact q _ _ _ [] gr (.tup (.inl ⟨upd_same, fun z => by
    obtain ⟨o, w⟩ := ci.tr p z
    rw [hp] at w; cases w⟩) (gr.rvs r)) .nil fun a ha => nomatch ha
theorem ti_ok {l : List D} (r : RV K C M H v (.tup l) o) (hf : D.ofs l = true) : ∃ p xs, v = .ref p ∧ SqT K H p xs ∧ RVs K C M H xs l [] := by
  cases r with
  | @tup p xs _ _ h r =>
    obtain rfl := r.of hf
    refine ⟨p, xs, rfl, ?_, r⟩
    rcases h with h | h
    · exact SqT.of h.1
    · exact h H

/-! ### + -/
def addD (_ : Ms) (a b : D) : Option D := match a, b with
  | .int i, .int j => some (.int (i + j))
  | .tup l, .tup m => if D.ofs l = true ∧ D.ofs m = true ∧ l.length + m.length ≤ BIG then some (.tup (l ++ m)) else none
  | .str x, .str y => if x.length + y.length ≤ BIG then some (.str (x ++ y)) else none
  | a, b => a.li.bind fun l => b.li.bind fun m => if l.length + m.length ≤ BIG then some (.own (l ++ m)) else none
def rStrAdd : R2 := fun x y H Q => ∃ i j, x = .str i ∧ y = .str j ∧ i.length + j.length ≤ sizeLine ∧ Q (.str (i ++ j)) H
def rAdd4 (K : PySem.W.Frag) : R2 := fun x y H Q => rI0 (fun i j => .int (i + j)) x y H Q ∨ rCatA K x y H Q ∨ rStrAdd x y H Q ∨ rCat x y H Q
theorem or_add : OpR X (binaryOp .Add) (rAdd4 X.K) := op_add.or (op_catA.or (op_add_str.or op_cat))
theorem ok_add : OpOk K (rAdd4 K) addD := by
  intro C M H st v1 d1 o1 v2 d2 o2 res Q ci r1 r2 e q
  unfold addD at e
  split at e
  · cases e
    cases r1
    cases r2
    exact .inl ⟨_, _, rfl, rfl, q.val ci (.int _)⟩
  · rename_i l m
    split at e
    · rename_i hc
      cases e
      obtain ⟨p, xs, rfl, t1, s1⟩ := ti_ok r1 hc.1
      obtain ⟨p2, ys, rfl, t2, s2⟩ := ti_ok r2 hc.2.1
      refine .inr (.inl ⟨p, p2, xs, ys, rfl, rfl, t1, t2, by rw [s1.len, s2.len]; exact big_size hc.2.2, fun z => ?_, fun _ z => ?_, fun _ _ p hp => ans_tup ci (s1.app0 s2) q hp⟩)
      · have hl : l = [] := List.length_eq_zero_iff.mp (by rw [← s1.len, z]; rfl)
        subst hl
        cases r2 with
        | @tup _ _ _ _ h r => 
          have := r.of hc.2.1
          subst this
          exact q.val ci (.tup h r)
      · have hl : m = [] := List.length_eq_zero_iff.mp (by rw [← s2.len, z]; rfl)
        subst hl
        rw [List.append_nil] at q
        cases r1 with
        | @tup _ _ _ _ h r => 
          have := r.of hc.1
          subst this
          exact q.val ci (.tup h r)
    · cases e
  · split at e
    · rename_i hc
      cases e
      cases r1
      cases r2
      exact .inr (.inr (.inl ⟨_, _, rfl, rfl, big_size hc, q.val ci (.str _)⟩))
    · cases e
  · rw [Option.bind_eq_some_iff] at e
    obtain ⟨l, e1, e⟩ := e
    rw [Option.bind_eq_some_iff] at e
    obtain ⟨m, e2, e⟩ := e
    split at e
    · rename_i hc
      cases e
      obtain ⟨p, xs, rfl, t1, s1⟩ := li_ok e1 r1
      obtain ⟨p2, ys, rfl, t2, s2⟩ := li_ok e2 r2
      exact .inr (.inr (.inr ⟨p, p2, xs, ys, rfl, rfl, t1, t2, by rw [s1.len, s2.len]; exact big_size hc, fun p hp => ans_new ci (s1.app0 s2) q hp⟩))
    · cases e
/-! ### - * // % ** -/
def subD (_ : Ms) (a b : D) : Option D := match a, b with
  | .int i, .int j => some (.int (i - j))
  | _, _ => none
theorem ok_sub : OpOk K (rI0 fun i j => .int (i - j)) subD := by
  intro C M H st v1 d1 o1 v2 d2 o2 res Q ci r1 r2 e q
  unfold subD at e
  split at e
  · cases e
    cases r1
    cases r2
    exact ⟨_, _, rfl, rfl, q.val ci (.int _)⟩
  · cases e
def small64 (i : Int) : Bool := decide (-(2 ^ 64) < i ∧ i < 2 ^ 64)
def mulD (_ : Ms) (a b : D) : Option D := match a, b with
  | .int i, .int j => if small64 i = true ∨ small64 j = true then some (.int (i * j)) else none
  | .tup l, .int k => if D.ofs l = true ∧ l ≠ [] ∧ 2 ≤ k ∧ k ≤ 1000 ∧ l.length ≤ 1000 then some (.tup (List.replicate k.toNat l).flatten) else none
  | a, .int k => a.li.bind fun l => if -(2 ^ 63) ≤ k ∧ k < 2 ^ 63 ∧ l.length * k.toNat ≤ BIG then some (.own (List.replicate k.toNat l).flatten) else none
  | _, _ => none
def rMul3 (K : PySem.W.Frag) : R2 := fun x y H Q => rI CMul (fun i j => .int (i * j)) x y H Q ∨ rRepT K x y H Q ∨ rRep x y H Q
theorem or_mul : OpR X (binaryOp .Mult) (rMul3 X.K) := op_mul.or (op_repT.or op_rep)
theorem RVs.reps {xs : List V} {l : List D} (r : RVs K C M H xs l []) : ∀ n : Nat, RVs K C M H (List.replicate n xs).flatten (List.replicate n l).flatten []
  | 0 => .nil
  | n + 1 => by
    rw [List.replicate_succ, List.replicate_succ, List.flatten_cons, List.flatten_cons]
    exact r.app0 (r.reps n)
theorem ok_mul : OpOk K (rMul3 K) mulD := by
  intro C M H st v1 d1 o1 v2 d2 o2 res Q ci r1 r2 e q
  unfold mulD at e
  split at e
  · split at e
    · rename_i hc
      cases e
      cases r1
      cases r2
      refine .inl ⟨_, _, rfl, rfl, ?_, q.val ci (.int _)⟩
      rcases hc with h | h
      · exact .inl (of_decide_eq_true h)
      · exact .inr (of_decide_eq_true h)
    · cases e
  · split at e
    · rename_i l k hc
      cases e
      cases r2
      obtain ⟨p, xs, rfl, t1, s1⟩ := ti_ok r1 hc.1
      exact .inr (.inl ⟨p, _, xs, rfl, rfl, t1, fun z => hc.2.1 (List.length_eq_zero_iff.mp (by rw [← s1.len, z]; rfl)), hc.2.2.1, hc.2.2.2.1, by rw [s1.len]; exact hc.2.2.2.2, fun p hp => ans_tup ci (s1.reps _) q hp⟩)
    · cases e
  · rw [Option.bind_eq_some_iff] at e
    obtain ⟨l, e1, e⟩ := e
    split at e
    · rename_i hc
      cases e
      cases r2
      obtain ⟨p, xs, rfl, t1, s1⟩ := li_ok e1 r1
      exact .inr (.inr ⟨p, _, xs, rfl, rfl, t1, hc.1, hc.2.1, by rw [s1.len]; exact big_size hc.2.2, fun p hp => ans_new ci (s1.reps _) q hp⟩)
    · cases e
  · cases e
def small30 (j : Int) : Bool := decide (j ≠ 0 ∧ j.natAbs < 1073741824)
def fdivD (_ : Ms) (a b : D) : Option D := match a, b with
  | .int i, .int j => if small30 j = true then some (.int (i.fdiv j)) else none
  | _, _ => none
theorem ok_fdiv : OpOk K (rI CDivN fun i j => .int (i.fdiv j)) fdivD := by
  intro C M H st v1 d1 o1 v2 d2 o2 res Q ci r1 r2 e q
  unfold fdivD at e
  split at e
  · split at e
    · rename_i i j hc
      have hc2 : j ≠ 0 ∧ j.natAbs < 1073741824 := of_decide_eq_true hc
      cases e
      cases r1
      cases r2
      exact ⟨_, _, rfl, rfl, hc2, q.val ci (.int _)⟩
    · cases e
  · cases e
def modD (_ : Ms) (a b : D) : Option D := match a, b with
  | .int i, .int j => if j ≠ 0 then some (.int (i.fmod j)) else none
  | _, _ => none
theorem ok_mod : OpOk K (rI (fun _ j => j ≠ 0) fun i j => .int (i.fmod j)) modD := by
  intro C M H st v1 d1 o1 v2 d2 o2 res Q ci r1 r2 e q
  unfold modD at e
  split at e
  · split at e
    · rename_i hc
      cases e
      cases r1
      cases r2
      exact ⟨_, _, rfl, rfl, hc, q.val ci (.int _)⟩
    · cases e
  · cases e
def okPow (i j : Int) : Bool := decide (0 ≤ j ∧ j ≤ 1000000 ∧ i.natAbs < 2 ^ 64)
def powD (_ : Ms) (a b : D) : Option D := match a, b with
  | .int i, .int j => if okPow i j = true then some (.int (i ^ j.toNat)) else none
  | _, _ => none
theorem ok_pow : OpOk K (rI CPow fun i j => .int (i ^ j.toNat)) powD := by
  intro C M H st v1 d1 o1 v2 d2 o2 res Q ci r1 r2 e q
  unfold powD at e
  split at e
  · split at e
    · rename_i i j hc
      have hc2 : 0 ≤ j ∧ j ≤ 1000000 ∧ i.natAbs < 2 ^ 64 := of_decide_eq_true hc
      cases e
      cases r1
      cases r2
      exact ⟨_, _, rfl, rfl, hc2, q.val ci (.int _)⟩
    · cases e
  · cases e
def negD (_ : Ms) (a : D) : Option D := match a with
  | .int i => some (.int (-i))
  | _ => none
theorem ok_neg : UnOk K (rU fun i => .int (-i)) negD := by
  intro C M H st v1 d1 o1 res Q ci r1 e q
  unfold negD at e
  split at e
  · cases e
    cases r1
    exact ⟨_, rfl, q.val ci (.int _)⟩
  · cases e
/-! ### < <= > >= -/
def cmpD (p : Int → Int → Bool) (_ : Ms) (a b : D) : Option D := match a, b with
  | .int i, .int j => some (.bl (p i j))
  | _, _ => none
theorem ok_cmp {p : Int → Int → Bool} : OpOk K (rI0 fun i j => .bl (p i j)) (cmpD p) := by
  intro C M H st v1 d1 o1 v2 d2 o2 res Q ci r1 r2 e q
  unfold cmpD at e
  split at e
  · cases e
    cases r1
    cases r2
    exact ⟨_, _, rfl, rfl, q.val ci (.bl _)⟩
  · cases e
abbrev ltD := cmpD fun i j => decide (i < j)
abbrev leD := cmpD fun i j => decide (i ≤ j)
abbrev gtD := cmpD fun i j => decide (j < i)
abbrev geD := cmpD fun i j => decide (j ≤ i)
/-! ### == != is -/
mutual
def D.py : D → PyData
  | .non => .none | .bl b => .bool b | .int i => .int i | .str s => .str s
  | .tup l => .tuple (D.pys l) | .lst l => .list (D.pys l) | .own l => .list (D.pys l)
  | .cell _ => .none | .scr ns => .list (ns.map PyData.int)
def D.pys : List D → List PyData
  | [] => []
  | d :: l => d.py :: D.pys l
end
theorem dp_ints : ∀ ns : List Int, DpAll K H (ns.map V.int) (ns.map PyData.int)
  | [] => .nil
  | n :: r => .cons (.int n) (dp_ints r)
mutual
theorem RV.dp : ∀ {v : V} {d : D} {os : List Addr}, RV K C M H v d os → d.nc = true → Dp K H v d.py
  | _, _, _, .non, _ => by simp only [D.py]; exact .non
  | _, _, _, .bl b, _ => by simp only [D.py]; exact .bl b
  | _, _, _, .int i, _ => by simp only [D.py]; exact .int i
  | _, _, _, .str s, _ => by simp only [D.py]; exact .str s
  | _, _, _, .tup h r, q => by
    simp only [D.py]
    refine .tup ?_ (r.dp (by simpa only [D.nc] using q))
    rcases h with h | h
    · exact SqT.of h.1
    · exact h H
  | _, _, _, .lst h r, q => by
    simp only [D.py]
    exact .lst (SqL.of h.1) (r.dp (by simpa only [D.nc] using q))
  | _, _, _, .own h r, q => by
    simp only [D.py]
    exact .lst (SqL.of h) (r.dp (by simpa only [D.nc] using q))
  | _, _, _, .cell h, q => by simp only [D.nc] at q; cases q
  | _, _, _, .scr h, q => by
    simp only [D.py]
    refine .lst ?_ (dp_ints _)
    rcases h with h | h
    · exact .inl h.1
    · exact h H
theorem RVs.dp : ∀ {vs : List V} {ds : List D} {os : List Addr}, RVs K C M H vs ds os → D.ncs ds = true → DpAll K H vs (D.pys ds)
  | _, _, _, .nil, _ => by simp only [D.pys]; exact .nil
  | _, _, _, .cons h r, q => by
    simp only [D.ncs, Bool.and_eq_true] at q
    simp only [D.pys]
    exact .cons (h.dp q.1) (r.dp q.2)
end
/-- equality: of scalars, else of data -/
def eqB (a b : D) : Option Bool := match a, b with
  | .non, .non => some true
  | .int i, .int j => some (decide (i = j))
  | .bl i, .bl j => some (decide (i = j))
  | .str i, .str j => some (decide (i = j))
  | .non, .int _ => some false | .int _, .non => some false | .non, .bl _ => some false | .bl _, .non => some false | .non, .str _ => some false | .str _, .non => some false
  | .int _, .str _ => some false | .str _, .int _ => some false | .bl _, .str _ => some false | .str _, .bl _ => some false
  | a, b => if a.nc = true ∧ b.nc = true ∧ SeqAt.shaped a.py = true ∧ SeqAt.shaped b.py = true then some (PyData.eqv a.py b.py) else none
def eqD (_ : Ms) (a b : D) : Option D := (eqB a b).map .bl
def neD (_ : Ms) (a b : D) : Option D := (eqB a b).map fun x => .bl (!x)
def rEq2 (K : PySem.W.Frag) : R2 := fun x y H Q => rEq x y H Q ∨ rEqD K x y H Q
def rNe2 (K : PySem.W.Frag) : R2 := fun x y H Q => rNe x y H Q ∨ rNeD K x y H Q
theorem or_eq (hu : X.A.units + 64 < cLine) : OpR X (compareOp .Eq) (rEq2 X.K) := op_eq.or (op_eqD hu)
theorem or_ne (hu : X.A.units + 64 < cLine) : OpR X (compareOp .NotEq) (rNe2 X.K) := op_ne.or (op_neD hu)
theorem eqB_ok {b : Bool} (r1 : RV K C M H v1 d1 o1) (r2 : RV K C M H v2 d2 o2) (e : eqB d1 d2 = some b) :
    (scal v1 v2 = true ∧ decide (v1 = v2) = b) ∨ (Dp K H v1 d1.py ∧ Dp K H v2 d2.py ∧ SeqAt.shaped d1.py = true ∧ SeqAt.shaped d2.py = true ∧ PyData.eqv d1.py d2.py = b) := by
  unfold eqB at e
  split at e
  case h_15 =>
    split at e
    · rename_i hc
      cases e
      exact .inr ⟨r1.dp hc.1, r2.dp hc.2.1, hc.2.2.1, hc.2.2.2, rfl⟩
    · cases e
  all_goals
    cases e
    cases r1
    cases r2
    refine .inl ⟨rfl, ?_⟩
    first
    | rfl
    | simp
theorem ok_eq : OpOk K (rEq2 K) eqD := by
  intro C M H st v1 d1 o1 v2 d2 o2 res Q ci r1 r2 e q
  unfold eqD at e
  rw [Option.map_eq_some_iff] at e
  obtain ⟨b, e, rfl⟩ := e
  have qb := q.val ci (.bl b)
  rcases eqB_ok r1 r2 e with ⟨h1, h2⟩ | ⟨h1, h2, h3, h4, h5⟩
  · refine .inl ⟨h1, ?_⟩
    rw [h2]
    exact qb
  · refine .inr ⟨_, _, h1, h2, h3, h4, ?_⟩
    rw [h5]
    exact qb
theorem ok_ne : OpOk K (rNe2 K) neD := by
  intro C M H st v1 d1 o1 v2 d2 o2 res Q ci r1 r2 e q
  unfold neD at e
  rw [Option.map_eq_some_iff] at e
  obtain ⟨b, e, rfl⟩ := e
  have qb := q.val ci (.bl (!b))
  rcases eqB_ok r1 r2 e with ⟨h1, h2⟩ | ⟨h1, h2, h3, h4, h5⟩
  · refine .inl ⟨h1, ?_⟩
    rw [h2]
    exact qb
  · refine .inr ⟨_, _, h1, h2, h3, h4, ?_⟩
    rw [h5]
    exact qb
def isN : D → Bool
  | .non => true
  | _ => false
theorem isN_ok (r : RV K C M H v d o) : decide (v = .non) = isN d := by
  cases r <;> simp [isN]
def isND (_ : Ms) (a b : D) : Option D := match b with
  | .non => some (.bl (isN a))
  | _ => none
def notND (_ : Ms) (a b : D) : Option D := match b with
  | .non => some (.bl (!isN a))
  | _ => none
theorem ok_isN : OpOk K (fun x y H Q => y = .non ∧ Q (.bl (decide (x = .non))) H) isND := by
  intro C M H st v1 d1 o1 v2 d2 o2 res Q ci r1 r2 e q
  unfold isND at e
  split at e
  · cases e
    cases r2
    refine ⟨rfl, ?_⟩
    rw [isN_ok r1]
    exact q.val ci (.bl _)
  · cases e
theorem ok_notN : OpOk K (fun x y H Q => y = .non ∧ Q (.bl (!decide (x = .non))) H) notND := by
  intro C M H st v1 d1 o1 v2 d2 o2 res Q ci r1 r2 e q
  unfold notND at e
  split at e
  · cases e
    cases r2
    refine ⟨rfl, ?_⟩
    rw [isN_ok r1]
    exact q.val ci (.bl _)
  · cases e
/-! ### x[i] -/
def ixD (st : Ms) (a b : D) : Option D := match b with
  | .int k => match a with
    | .tup l => if D.ofs l = true then atI l k else none
    | .cell c => st[c]?.bind fun l => atI l k
    | .scr ns => (atI ns k).map .int
    | a => a.li.bind fun l => atI l k
  | _ => none
def rIxLT (K : PySem.W.Frag) : R2 := fun x y H Q => rIxL K x y H Q ∨ rIxT K x y H Q
theorem or_ix : IxR X (rIxLT X.K) := ix_list.or ix_tup
theorem atI_rvs {xs : List V} {l : List D} {k : Int} (r : RVs K C M H xs l []) (e : atI l k = some d) : ∃ v, atI xs k = some v ∧ RV K C M H v d [] := by
  unfold atI at e ⊢
  rw [Option.bind_eq_some_iff] at e
  obtain ⟨j, e1, e2⟩ := e
  obtain ⟨v, e3, rv⟩ := r.get0 e2
  rw [r.len, e1]
  exact ⟨v, e3, rv⟩
theorem ok_ix : OpOk K (rIxLT K) ixD := by
  intro C M H st v1 d1 o1 v2 d2 o2 res Q ci r1 r2 e q
  unfold ixD at e
  split at e
  · cases r2
    split at e
    · split at e
      · rename_i hf
        obtain ⟨p, xs, rfl, t1, s1⟩ := ti_ok r1 hf
        obtain ⟨v, e3, rv⟩ := atI_rvs s1 e
        exact .inr ⟨p, xs, _, v, rfl, rfl, t1, e3, q.val ci rv⟩
      · cases e
    · rename_i c
      rw [Option.bind_eq_some_iff] at e
      obtain ⟨l, e1, e⟩ := e
      cases r1 with
      | @cell p _ hc =>
        obtain ⟨xs, hp, rs⟩ := ci.at_ c l p e1 hc
        obtain ⟨v, e3, rv⟩ := atI_rvs rs e
        exact .inl ⟨p, xs, _, v, rfl, rfl, SqL.of hp, e3, q.val ci (rv.mono (C' := C) (fun c p h => by simp at h) (fun _ _ _ e => e) (fun _ _ h _ => h) fun a ha => nomatch ha)⟩
    · rename_i ns
      rw [Option.map_eq_some_iff] at e
      obtain ⟨n, e, rfl⟩ := e
      cases r1 with
      | @scr p _ h =>
        have hs : SqL K H p (ns.map V.int) := by
          rcases h with h | h
          · exact .inl h.1
          · exact h H
        refine .inl ⟨p, ns.map V.int, _, .int n, rfl, rfl, hs, ?_, q.val ci (.int n)⟩
        unfold atI at e ⊢
        rw [Option.bind_eq_some_iff] at e
        obtain ⟨j, e1, e2⟩ := e
        rw [List.length_map, e1]
        simp [e2]
    · rw [Option.bind_eq_some_iff] at e
      obtain ⟨l, e1, e⟩ := e
      obtain ⟨p, xs, rfl, t1, s1⟩ := li_ok e1 r1
      obtain ⟨v, e3, rv⟩ := atI_rvs s1 e
      exact .inl ⟨p, xs, _, v, rfl, rfl, SqL.of t1, e3, q.val ci rv⟩
  · cases e
end
end Pv

/-! # PvK -/
set_option Elab.async false
set_option linter.all false
set_option maxHeartbeats 1000000
/-! built-ins -/
namespace Pv
open PySem PySem.Spec PyProof.Rows L2
section
variable {X : Cx} {K : PySem.W.Frag} {C : List Addr} {M : Addr → Prop} {H : Hp} {st : Ms} {v v1 v2 : V} {d d1 d2 : D} {o o1 o2 os : List Addr} {Q : VK} {vs : List V}
theorem rvs_one (r : RVs K C M H vs [d] os) : ∃ v, vs = [v] ∧ RV K C M H v d os := by
  cases r with
  | cons h r =>
    cases r
    rw [List.append_nil]
    exact ⟨_, rfl, h⟩
theorem rvs_two (r : RVs K C M H vs [d1, d2] os) : ∃ v w o p, vs = [v, w] ∧ RV K C M H v d1 o ∧ RV K C M H w d2 p := by
  cases r with
  | cons h r =>
    obtain ⟨w, rfl, r2⟩ := rvs_one r
    exact ⟨_, w, _, _, rfl, h, r2⟩
/-! ### isinstance -/
def D.ty : D → String
  | .non => "NoneType" | .bl _ => "bool" | .int _ => "int" | .str _ => "str" | .tup _ => "tuple" | .lst _ => "list" | .own _ => "list" | .cell _ => "list" | .scr _ => "list"
def isaB (T : String) (d : D) : Bool := d.ty == T || (d.ty == "bool" && T == "int")
def tys : List String := ["NoneType", "bool", "int", "str", "tuple", "list"]
theorem ty_mem (d : D) : d.ty ∈ tys := by cases d <;> simp [D.ty, tys]
theorem tyx (ci : CI K C M H st) (r : RV K C M H v d o) : TyX K H v (.type d.ty) := by
  cases r with
  | non => exact .base .non
  | bl b => exact .base (.bl b)
  | int i => exact .base (.int i)
  | str s => exact .base (.str s)
  | @tup p xs _ _ h r =>
    rcases h with h | h
    · exact .base (.tup h.1)
    · rcases h H with (h | ⟨o, h⟩) | ⟨o, its, n, h1, h2, _⟩
      · exact .base (.tup h)
      · exact .fTuple h
      · exact .kTuple h1 h2
  | lst h r => exact .base (.lst h.1)
  | own h r => exact .base (.lst h)
  | @cell p c h =>
    have hl : c < st.length := by rw [ci.len]; exact (List.getElem?_eq_some_iff.mp h).1
    obtain ⟨xs, e, _⟩ := ci.at_ c _ p (List.getElem?_eq_getElem hl) h
    exact .base (.lst e)
  | @scr p ns h =>
    rcases h with ⟨h | ⟨o, h⟩, _⟩ | h
    · exact .base (.lst h)
    · exact .base (.frz h)
    · rcases h H with (h | ⟨o, h⟩) | ⟨o, its, n, h1, h2, _⟩
      · exact .base (.lst h)
      · exact .base (.frz h)
      · exact .kList h1 h2
/-- isinstance(e, T), T a built-in class of these six -/
def fIsa (T : String) (f : ES) : ES := fun env st => (f env st).map fun x => (.bl (isaB T x.1), x.2)
theorem se_isa {e c : Expr} {f : ES} {p pos : Pos} (T : String) (hT : ∀ a ∈ tys, kitB a T = some (a == T || (a == "bool" && T == "int"))) (hg : Gl X "isinstance") (hm : X.mg "isinstance" = none) (ha : SP X e f) (hc : PE X c (tC (.ty T)))
    (he : starEach (e :: [c]) X.env = (false, eval e X.env) :: starEach [c] X.env := by rfl) (hec : starEach [c] X.env = (false, eval c X.env) :: starEach [] X.env := by rfl) (hpl : (backTo pos (starEach [c] X.env)).any (·.1) = false := by rfl) :
    SE X (.Call (.Name "isinstance" p) [e, c] [] pos) (fIsa T f) := pe_weak (pe_callB call_isi hg hm (by decide +kernel) (pa_cons ha (pa_cons hc pa_nil hec) he) (by decide) (by decide) he hpl) fun σ H Q ⟨C, O, M, env, st, d, env', st', fi, e, q⟩ => by
  unfold fIsa at e
  rw [Option.map_eq_some_iff] at e
  obtain ⟨⟨a, env1, st1⟩, e1, e⟩ := e
  cases e
  refine ⟨C, O, M, env, st, a, env', st', fi, e1, fun v1 H1 C1 O1 M1 o1 g1 fi1 r1 n1 => ?_⟩
  refine ⟨v1, .ty T, .type a.ty, .type T, isaB T a, rfl, ?_, tyx fi1.ci r1, kit_ty (hT _ (ty_mem a)), q _ H1 C1 O1 M1 [] g1 fi1 (.bl _) .nil fun a ha => nomatch ha⟩
  first | rfl | exact .ty T | trivial | constructor
/-! ### len, abs, int, max, min of two -/
def lenD (st : Ms) (ds : List D) : Option D := match ds with
  | [.str s] => if s.length ≤ BIG then some (.int s.length) else none
  | [.tup l] => some (.int l.length)
  | [.lst l] => some (.int l.length)
  | [.own l] => some (.int l.length)
  | [.scr l] => some (.int l.length)
  | [.cell c] => (st[c]?).map fun l => .int l.length
  | _ => none
theorem ok_len : ClOk K (fun xs H Q => ∃ x n, xs = [x] ∧ LenV K x H n ∧ Q (.int n) H) lenD := by
  intro C M H st vs ds os res Q ci r e q
  unfold lenD at e
  split at e
  · split at e
    · rename_i s hb
      cases e
      obtain ⟨v, rfl, r9⟩ := rvs_one r
      cases r9
      exact ⟨_, _, rfl, ⟨big_size hb, rfl⟩, q.val ci (.int _)⟩
    · cases e
  · cases e
    obtain ⟨v, rfl, r9⟩ := rvs_one r
    cases r9 with
    | @tup p xs _ _ h r8 =>
      refine ⟨_, _, rfl, .inr ⟨xs, ?_, r8.len.symm⟩, q.val ci (.int _)⟩
      rcases h with h | h
      · exact SqT.of h.1
      · exact h H
  · cases e
    obtain ⟨v, rfl, r9⟩ := rvs_one r
    cases r9 with
    | @lst p xs _ h r8 => exact ⟨_, _, rfl, .inl ⟨xs, SqL.of h.1, r8.len.symm⟩, q.val ci (.int _)⟩
  · cases e
    obtain ⟨v, rfl, r9⟩ := rvs_one r
    cases r9 with
    | @own p xs _ _ h r8 => exact ⟨_, _, rfl, .inl ⟨xs, SqL.of h, r8.len.symm⟩, q.val ci (.int _)⟩
  · rename_i ns
    cases e
    obtain ⟨v, rfl, r9⟩ := rvs_one r
    cases r9 with
    | @scr p _ h =>
      refine ⟨_, _, rfl, .inl ⟨ns.map V.int, ?_, (List.length_map ..).symm⟩, q.val ci (.int _)⟩
      rcases h with h | h
      · exact .inl h.1
      · exact h H
  · rename_i c
    rw [Option.map_eq_some_iff] at e
    obtain ⟨l, e1, rfl⟩ := e
    obtain ⟨v, rfl, r9⟩ := rvs_one r
    cases r9 with
    | @cell p _ hc =>
      obtain ⟨xs, hp, rs⟩ := ci.at_ c l p e1 hc
      exact ⟨_, _, rfl, .inl ⟨xs, SqL.of hp, rs.len.symm⟩, q.val ci (.int _)⟩
  · cases e
def absD (_ : Ms) (ds : List D) : Option D := match ds with
  | [.int i] => some (.int (if i < 0 then -i else i))
  | _ => none
theorem ok_abs : ClOk K (fun xs H Q => ∃ i, xs = [.int i] ∧ Q (.int (if i < 0 then -i else i)) H) absD := by
  intro C M H st vs ds os res Q ci r e q
  unfold absD at e
  split at e
  · cases e
    obtain ⟨v, rfl, r9⟩ := rvs_one r
    cases r9
    exact ⟨_, rfl, q.val ci (.int _)⟩
  · cases e
def max2D (_ : Ms) (ds : List D) : Option D := match ds with
  | [.int i, .int j] => some (.int (if j > i then j else i))
  | _ => none
theorem ok_max2 : ClOk K (fun xs H Q => ∃ i j, xs = [.int i, .int j] ∧ Q (.int (if j > i then j else i)) H) max2D := by
  intro C M H st vs ds os res Q ci r e q
  unfold max2D at e
  split at e
  · cases e
    obtain ⟨v, w, _, _, rfl, r1, r2⟩ := rvs_two r
    cases r1
    cases r2
    exact ⟨_, _, rfl, q.val ci (.int _)⟩
  · cases e
def min2D (_ : Ms) (ds : List D) : Option D := match ds with
  | [.int i, .int j] => some (.int (if j < i then j else i))
  | _ => none
theorem ok_min2 : ClOk K (fun xs H Q => ∃ i j, xs = [.int i, .int j] ∧ Q (.int (if j < i then j else i)) H) min2D := by
  intro C M H st vs ds os res Q ci r e q
  unfold min2D at e
  split at e
  · cases e
    obtain ⟨v, w, _, _, rfl, r1, r2⟩ := rvs_two r
    cases r1
    cases r2
    exact ⟨_, _, rfl, q.val ci (.int _)⟩
  · cases e
def int1D (_ : Ms) (ds : List D) : Option D := match ds with
  | [.int i] => some (.int i)
  | [.bl b] => some (.int (if b then 1 else 0))
  | _ => none
theorem ok_int1 : ClOk K (fun xs H Q => (∃ i, xs = [.int i] ∧ Q (.int i) H) ∨ ∃ k, xs = [.bl k] ∧ Q (.int (if k then 1 else 0)) H) int1D := by
  intro C M H st vs ds os res Q ci r e q
  unfold int1D at e
  split at e
  · cases e
    obtain ⟨v, rfl, r9⟩ := rvs_one r
    cases r9
    exact .inl ⟨_, rfl, q.val ci (.int _)⟩
  · cases e
    obtain ⟨v, rfl, r9⟩ := rvs_one r
    cases r9
    exact .inr ⟨_, rfl, q.val ci (.int _)⟩
  · cases e
/-! ### sum, all, any -/
def intsOf : List D → Option (List Int)
  | [] => some []
  | .int n :: l => (intsOf l).map (n :: ·)
  | _ => none
def blsOf : List D → Option (List Bool)
  | [] => some []
  | .bl n :: l => (blsOf l).map (n :: ·)
  | _ => none
theorem intsOf_ok : ∀ {l : List D} {ns : List Int}, intsOf l = some ns → l = ns.map D.int
  | [], ns, h => by
    cases h
    rfl
  | .int n :: l, ns, h => by
    simp only [intsOf, Option.map_eq_some_iff] at h
    obtain ⟨m, h, rfl⟩ := h
    rw [intsOf_ok h]
    rfl
theorem blsOf_ok : ∀ {l : List D} {ns : List Bool}, blsOf l = some ns → l = ns.map D.bl
  | [], ns, h => by
    cases h
    rfl
  | .bl n :: l, ns, h => by
    simp only [blsOf, Option.map_eq_some_iff] at h
    obtain ⟨m, h, rfl⟩ := h
    rw [blsOf_ok h]
    rfl
@[simp] theorem intsOf_map : ∀ ns : List Int, intsOf (ns.map D.int) = some ns
  | [] => rfl
  | n :: r => by simp [intsOf, intsOf_map r]
@[simp] theorem blsOf_map : ∀ ns : List Bool, blsOf (ns.map D.bl) = some ns
  | [] => rfl
  | n :: r => by simp [blsOf, blsOf_map r]
theorem rvs_ints : ∀ {xs : List V} {ns : List Int} {os : List Addr}, RVs K C M H xs (ns.map D.int) os → xs = ns.map V.int
  | [], [], _, _ => rfl
  | x :: xs, n :: ns, _, .cons h r => by
    cases h
    rw [rvs_ints r]
    rfl
theorem rvs_bls : ∀ {xs : List V} {ns : List Bool} {os : List Addr}, RVs K C M H xs (ns.map D.bl) os → xs = ns.map V.bl
  | [], [], _, _ => rfl
  | x :: xs, n :: ns, _, .cons h r => by
    cases h
    rw [rvs_bls r]
    rfl
/-- the items of a list, the script's too -/
def D.li2 : D → Option (List D)
  | .scr ns => some (ns.map .int)
  | d => d.li
theorem li2_ok {l : List D} (h : d.li2 = some l) (r : RV K C M H v d o) : ∃ p xs, v = .ref p ∧ SqL K H p xs ∧ RVs K C M H xs l [] := by
  unfold D.li2 at h
  split at h
  · rename_i ns
    cases h
    cases r with
    | @scr p _ h =>
      refine ⟨p, _, rfl, ?_, RVs.ints ns⟩
      rcases h with h | h
      · exact .inl h.1
      · exact h H
  · obtain ⟨p, xs, e, h1, r1⟩ := li_ok h r
    exact ⟨p, xs, e, SqL.of h1, r1⟩
def sumD (_ : Ms) (ds : List D) : Option D := match ds with
  | [d] => d.li2.bind fun l => (intsOf l).map fun ns => .int ns.sum
  | _ => none
theorem ok_sum : ClOk K (rSum K) sumD := by
  intro C M H st vs ds os res Q ci r e q
  unfold sumD at e
  split at e
  · rw [Option.bind_eq_some_iff] at e
    obtain ⟨l, e1, e⟩ := e
    rw [Option.map_eq_some_iff] at e
    obtain ⟨ns, e2, rfl⟩ := e
    obtain ⟨v, rfl, r9⟩ := rvs_one r
    obtain ⟨p, xs, rfl, h1, r1⟩ := li2_ok e1 r9
    rw [intsOf_ok e2] at r1
    rw [rvs_ints r1] at h1
    exact ⟨p, ns, rfl, h1, q.val ci (.int _)⟩
  · cases e
def allD (_ : Ms) (ds : List D) : Option D := match ds with
  | [d] => d.li.bind fun l => (blsOf l).map fun ns => .bl (ns.all id)
  | _ => none
def anyD (_ : Ms) (ds : List D) : Option D := match ds with
  | [d] => d.li.bind fun l => (blsOf l).map fun ns => .bl (ns.any id)
  | _ => none
theorem ok_all : ClOk K (rAll K) allD := by
  intro C M H st vs ds os res Q ci r e q
  unfold allD at e
  split at e
  · rw [Option.bind_eq_some_iff] at e
    obtain ⟨l, e1, e⟩ := e
    rw [Option.map_eq_some_iff] at e
    obtain ⟨ns, e2, rfl⟩ := e
    obtain ⟨v, rfl, r9⟩ := rvs_one r
    obtain ⟨p, xs, rfl, h1, r1⟩ := li_ok e1 r9
    rw [blsOf_ok e2] at r1
    rw [rvs_bls r1] at h1
    exact ⟨p, ns, rfl, SqL.of h1, q.val ci (.bl _)⟩
  · cases e
theorem ok_any : ClOk K (rAny K) anyD := by
  intro C M H st vs ds os res Q ci r e q
  unfold anyD at e
  split at e
  · rw [Option.bind_eq_some_iff] at e
    obtain ⟨l, e1, e⟩ := e
    rw [Option.map_eq_some_iff] at e
    obtain ⟨ns, e2, rfl⟩ := e
    obtain ⟨v, rfl, r9⟩ := rvs_one r
    obtain ⟨p, xs, rfl, h1, r1⟩ := li_ok e1 r9
    rw [blsOf_ok e2] at r1
    rw [rvs_bls r1] at h1
    exact ⟨p, ns, rfl, SqL.of h1, q.val ci (.bl _)⟩
  · cases e
/-! ### tuple(..), list(..) -/
def tupD (_ : Ms) (ds : List D) : Option D := match ds with
  | [.tup l] => if D.ofs l = true then some (.tup l) else none
  | [d] => d.li.map .tup
  | _ => none
theorem ok_tup : ClOk K (fun xs H Q => ∃ p ys, xs = [.ref p] ∧ ((SqL K H p ys ∧ ∀ l, H l = none → Q (.ref l) (upd H l (.tup ys))) ∨ (SqT K H p ys ∧ Q (.ref p) H))) tupD := by
  intro C M H st vs ds os res Q ci r e q
  unfold tupD at e
  split at e
  · split at e
    · rename_i hf
      cases e
      obtain ⟨v, rfl, r9⟩ := rvs_one r
      obtain ⟨p, xs, rfl, t1, s1⟩ := ti_ok r9 hf
      cases r9 with
      | @tup _ _ _ _ h r8 =>
        have := r8.of hf
        subst this
        exact ⟨p, xs, rfl, .inr ⟨t1, q.val ci (.tup h r8)⟩⟩
    · cases e
  · rw [Option.map_eq_some_iff] at e
    obtain ⟨l, e1, rfl⟩ := e
    obtain ⟨v, rfl, r9⟩ := rvs_one r
    obtain ⟨p, xs, rfl, h1, r1⟩ := li_ok e1 r9
    exact ⟨p, xs, rfl, .inl ⟨SqL.of h1, fun l hl => ans_tup ci r1 q hl⟩⟩
  · cases e
def lstD (_ : Ms) (ds : List D) : Option D := match ds with
  | [.tup l] => if D.ofs l = true then some (.own l) else none
  | [d] => d.li2.map .own
  | _ => none
theorem ok_lst : ClOk K (fun xs H Q => ∃ p ys, xs = [.ref p] ∧ (SqL K H p ys ∨ SqT K H p ys) ∧ ∀ l, H l = none → Q (.ref l) (upd H l (.lst ys))) lstD := by
  intro C M H st vs ds os res Q ci r e q
  unfold lstD at e
  split at e
  · split at e
    · rename_i hf
      cases e
      obtain ⟨v, rfl, r9⟩ := rvs_one r
      obtain ⟨p, xs, rfl, t1, s1⟩ := ti_ok r9 hf
      exact ⟨p, xs, rfl, .inr t1, fun l hl => ans_new ci s1 q hl⟩
    · cases e
  · rw [Option.map_eq_some_iff] at e
    obtain ⟨l, e1, rfl⟩ := e
    obtain ⟨v, rfl, r9⟩ := rvs_one r
    obtain ⟨p, xs, rfl, h1, r1⟩ := li2_ok e1 r9
    exact ⟨p, xs, rfl, .inl h1, fun l hl => ans_new ci r1 q hl⟩
  · cases e
end
end Pv

/-! # PvL -/
set_option Elab.async false
set_option linter.all false
set_option maxHeartbeats 1000000
/-! data compared, shown, cut; walks; unpacking -/
namespace Pv
open PySem PySem.Spec PyProof.Rows L2
section
variable {X : Cx} {K : PySem.W.Frag} {C : List Addr} {M : Addr → Prop} {H : Hp} {st : Ms} {v v1 v2 : V} {d d1 d2 : D} {o o1 o2 os : List Addr} {Q : VK} {vs : List V}
mutual
def ofPy : PyData → D
  | .none => .non | .bool b => .bl b | .int i => .int i | .str s => .str s
  | .list l => .lst (ofPys l) | .tuple l => .tup (ofPys l) | .dict _ => .non
def ofPys : List PyData → List D
  | [] => []
  | x :: l => ofPy x :: ofPys l
end
mutual
def D.pl : D → Bool
  | .own _ => false | .cell _ => false | .scr _ => false
  | .tup l => D.pls l
  | .lst l => D.pls l
  | .non => true | .bl _ => true | .int _ => true | .str _ => true
def D.pls : List D → Bool
  | [] => true
  | d :: l => d.pl && D.pls l
end
mutual
theorem ofPy_py : ∀ d : D, d.pl = true → ofPy d.py = d
  | .non, _ => by simp only [D.py, ofPy]
  | .bl b, _ => by simp only [D.py, ofPy]
  | .int i, _ => by simp only [D.py, ofPy]
  | .str s, _ => by simp only [D.py, ofPy]
  | .tup l, h => by simp only [D.py, ofPy]; rw [ofPys_pys l (by simpa only [D.pl] using h)]
  | .lst l, h => by simp only [D.py, ofPy]; rw [ofPys_pys l (by simpa only [D.pl] using h)]
  | .own l, h => by simp only [D.pl] at h; cases h
  | .cell c, h => by simp only [D.pl] at h; cases h
  | .scr c, h => by simp only [D.pl] at h; cases h
theorem ofPys_pys : ∀ l : List D, D.pls l = true → ofPys (D.pys l) = l
  | [], _ => by simp only [D.pys, ofPys]
  | d :: l, h => by
    simp only [D.pls, Bool.and_eq_true] at h
    simp only [D.pys, ofPys]
    rw [ofPy_py d h.1, ofPys_pys l h.2]
end
mutual
theorem pl_nc : ∀ d : D, d.pl = true → d.nc = true
  | .non, _ => rfl
  | .bl b, _ => rfl
  | .int i, _ => rfl
  | .str s, _ => rfl
  | .tup l, h => by simp only [D.nc]; exact pls_ncs l (by simpa only [D.pl] using h)
  | .lst l, h => by simp only [D.nc]; exact pls_ncs l (by simpa only [D.pl] using h)
  | .own l, h => by simp only [D.pl] at h; cases h
  | .cell c, h => by simp only [D.pl] at h; cases h
  | .scr c, h => by simp only [D.pl] at h; cases h
theorem pls_ncs : ∀ l : List D, D.pls l = true → D.ncs l = true
  | [], _ => rfl
  | d :: l, h => by
    simp only [D.pls, Bool.and_eq_true] at h
    simp only [D.ncs, Bool.and_eq_true]
    exact ⟨pl_nc d h.1, pls_ncs l h.2⟩
end
theorem pys_at : ∀ (l : List D) (i : Nat), (D.pys l)[i]? = (l[i]?).map D.py
  | [], i => by simp [D.pys]
  | d :: l, 0 => by simp [D.pys]
  | d :: l, i + 1 => by simpa [D.pys] using pys_at l i
theorem pys_len : ∀ l : List D, (D.pys l).length = l.length
  | [] => rfl
  | d :: l => by simp [D.pys, pys_len l]
/-! ### min, max of a list of data -/
def alikeB (xs : List PyData) : Bool := (xs.all fun x => xs.all fun y => PySem.W.alike x y) && xs.all fun x => match x with | .none => false | _ => true
theorem alikeB_ok {xs : List PyData} (h : alikeB xs = true) : PySem.W.AlikeAll xs := by
  unfold alikeB at h
  simp only [Bool.and_eq_true, List.all_eq_true] at h
  refine ⟨fun x hx y hy => h.1 x hx y hy, fun x hx e => ?_⟩
  have := h.2 x hx
  subst e
  cases this
def rExt (K : PySem.W.Frag) (m : PyData → List PyData → PyData) : List V → Hp → VK → Prop := fun xs H Q => ∃ p items d ds, xs = [.ref p] ∧ SqL K H p items ∧ DpAll K H items (d :: ds) ∧ PySem.W.AlikeAll (d :: ds) ∧ PyData.depthAll (d :: ds) ≤ 60 ∧
  ∀ (i : Nat) (v : V), items[i]? = some v → (d :: ds)[i]? = some (m d ds) → Q v H
theorem ext_end {pins : List (Addr × Obj)} {σ : L2.St} {s : Shared} {items : List V} {its : List Value} {ds : List PyData} {as bs : List Addr} {z : PyData} {i tk : Nat} {u : Value} {h' : Heap} (I : Inv X pins σ H s) (rvs : Vals items its) (rd : ReadsAll s.heap its ds as) (e1 : its.toArray[i]? = some u) (r1 : Reads h' u z bs)
    (hk : ∀ b o, s.heap.get? b = some o → h'.get? b = some o) (q : ∀ (i : Nat) (v : V), items[i]? = some v → ds[i]? = some z → Q v H) : EP X pins σ Q u { s with heap := h', toks := tk } := by
  have e1' : its[i]? = some u := by simpa using e1
  have hi : i < items.length := by rw [rvs.length]; exact (List.getElem?_eq_some_iff.mp e1').1
  obtain ⟨v, hv⟩ : ∃ v, items[i]? = some v := ⟨_, List.getElem?_eq_getElem hi⟩
  obtain ⟨u2, e2, rv2⟩ := rvs.get hv
  rw [e1'] at e2
  cases e2
  obtain ⟨bs2, r3, hl, _⟩ := PySem.W.readsAll_at rd i u e1'
  have e4 := (Reads.unique r1 _ _ (PySem.W.reads_keeps hk r3)).1
  refine ⟨v, H, I.kept hk, rv2, q i v hv ?_⟩
  rw [e4, List.getElem?_eq_getElem hl, List.getD_eq_getElem?_getD, List.getElem?_eq_getElem hl]
  rfl
theorem call_minD (hc : X.calm = true) (hu : X.A.units + 64 < cLine) : CallR X (.builtin "min") (rExt X.K PySem.W.minD) := by
  intro pins s σ H xs us Q I r h
  obtain ⟨p, items, d, ds, rfl, sq, dp, al, hd, q⟩ := h
  obtain ⟨u, rfl, rv⟩ := Vals.one r
  cases rv
  obtain ⟨its, rvs, pl, hz⟩ := I.list sq
  obtain ⟨as, rd⟩ := Dp.readsAll I (d :: ds) items its dp rvs
  exact PySem.W.min_list_data (I.ok.hd hc) pl.isList (by simpa using rd) al (by omega) fun i u h' tk bs e1 r1 hk => ext_end I rvs rd e1 r1 hk q
theorem call_maxD (hc : X.calm = true) (hu : X.A.units + 64 < cLine) : CallR X (.builtin "max") (rExt X.K PySem.W.maxD) := by
  intro pins s σ H xs us Q I r h
  obtain ⟨p, items, d, ds, rfl, sq, dp, al, hd, q⟩ := h
  obtain ⟨u, rfl, rv⟩ := Vals.one r
  cases rv
  obtain ⟨its, rvs, pl, hz⟩ := I.list sq
  obtain ⟨as, rd⟩ := Dp.readsAll I (d :: ds) items its dp rvs
  exact PySem.W.max_list_data (I.ok.hd hc) pl.isList (by simpa using rd) al (by omega) fun i u h' tk bs e1 r1 hk => ext_end I rvs rd e1 r1 hk q
def extD (m : PyData → List PyData → PyData) (_ : Ms) (ds : List D) : Option D := match ds with
  | [d] => d.li.bind fun l => match l with
    | [] => none
    | x :: xs => if D.pls (x :: xs) = true ∧ alikeB (D.pys (x :: xs)) = true ∧ PyData.depthAll (D.pys (x :: xs)) ≤ 60 then some (ofPy (m x.py (D.pys xs))) else none
  | _ => none
theorem ok_ext {m : PyData → List PyData → PyData} : ClOk K (rExt K m) (extD m) := by
  intro C M H st vs ds os res Q ci r e q
  unfold extD at e
  split at e
  · rw [Option.bind_eq_some_iff] at e
    obtain ⟨l, e1, e⟩ := e
    split at e
    · cases e
    · rename_i x xs
      split at e
      · rename_i hc
        cases e
        obtain ⟨v, rfl, r9⟩ := rvs_one r
        obtain ⟨p, items, rfl, h1, r1⟩ := li_ok e1 r9
        have dp : DpAll K H items (D.pys (x :: xs)) := r1.dp (pls_ncs _ hc.1)
        refine ⟨p, items, x.py, D.pys xs, rfl, SqL.of h1, by simpa only [D.pys] using dp, by have := alikeB_ok hc.2.1; simpa only [D.pys] using this, by simpa only [D.pys] using hc.2.2, fun i v e3 e4 => ?_⟩
        have e5 : (D.pys (x :: xs))[i]? = some (m x.py (D.pys xs)) := by simpa only [D.pys] using e4
        rw [pys_at, Option.map_eq_some_iff] at e5
        obtain ⟨di, e6, e7⟩ := e5
        obtain ⟨w, e8, rv⟩ := r1.get0 e6
        rw [e3] at e8
        cases e8
        have hpl : di.pl = true := by
          have : ∀ (l : List D), D.pls l = true → di ∈ l → di.pl = true := by
            intro l
            induction l with
            | nil => intro _ h; exact nomatch h
            | cons a l ih =>
              intro h hm
              simp only [D.pls, Bool.and_eq_true] at h
              rcases List.mem_cons.mp hm with z | z
              · rw [z]; exact h.1
              · exact ih h.2 z
          exact this _ hc.1 (List.mem_of_getElem? e6)
        rw [← e7, ofPy_py di hpl] at q
        exact q.val ci rv
      · cases e
  · cases e
/-! ### repr -/
theorem py_nodict : ∀ d : D, d.py.hasDict = false := by
  intro d
  refine D.rec (motive_1 := fun d => d.py.hasDict = false) (motive_2 := fun l => PyData.hasDictAll (D.pys l) = false) ?_ ?_ ?_ ?_ ?_ ?_ ?_ ?_ ?_ ?_ ?_ d
  · simp [D.py, PyData.hasDict]
  · intro b; simp [D.py, PyData.hasDict]
  · intro b; simp [D.py, PyData.hasDict]
  · intro b; simp [D.py, PyData.hasDict]
  · intro l h; simp [D.py, PyData.hasDict, h]
  · intro l h; simp [D.py, PyData.hasDict, h]
  · intro l h; simp [D.py, PyData.hasDict, h]
  · intro c; simp [D.py, PyData.hasDict]
  · intro l
    simp only [D.py, PyData.hasDict]
    induction l with
    | nil => rfl
    | cons a l ih => simp [PyData.hasDictAll, PyData.hasDict, ih]
  · simp [D.pys, PyData.hasDictAll]
  · intro a l h1 h2; simp [D.pys, PyData.hasDictAll, h1, h2]
def rRepr (K : PySem.W.Frag) : List V → Hp → VK → Prop := fun xs H Q => ∃ p d, xs = [.ref p] ∧ Dp K H (.ref p) d ∧ d.showable = true ∧ d.hasDict = false ∧ d.depth ≤ 60 ∧ d.shown.length ≤ sizeLine ∧ Q (.str d.shown) H
theorem call_repr (hg : X.A.guards = some []) (hu : X.A.units + 64 < cLine) : CallR X (.builtin "repr") (rRepr X.K) := by
  intro pins s σ H xs us Q I r h
  obtain ⟨p, d, rfl, dp, hs, hd, hdep, hlen, q⟩ := h
  obtain ⟨u, rfl, rv⟩ := Vals.one r
  cases rv
  obtain ⟨as, rd⟩ := Dp.reads I d _ _ dp rfl
  exact repr_of_reads' (h₀ := s.heap) rd hs (fun z => by rw [hd] at z; cases z) hg (by omega) (fun _ _ e => e) (fun h' u tk hk => ⟨.str d.shown, H, I.kept hk, ⟨_, rfl⟩, q⟩) hlen
def isRefD : D → Bool
  | .tup _ => true | .lst _ => true | .own _ => true | .scr _ => true
  | _ => false
def reprD (_ : Ms) (ds : List D) : Option D := match ds with
  | [d] => if isRefD d = true ∧ d.nc = true ∧ d.py.showable = true ∧ d.py.depth ≤ 60 ∧ d.py.shown.length ≤ BIG then some (.str d.py.shown) else none
  | _ => none
theorem ref_of (h : isRefD d = true) (r : RV K C M H v d o) : ∃ p, v = .ref p := by
  cases r <;> first | exact ⟨_, rfl⟩ | cases h
theorem ok_repr : ClOk K (rRepr K) reprD := by
  intro C M H st vs ds os res Q ci r e q
  unfold reprD at e
  split at e
  · split at e
    · rename_i hc
      cases e
      obtain ⟨v, rfl, r9⟩ := rvs_one r
      obtain ⟨p, rfl⟩ := ref_of hc.1 r9
      exact ⟨p, _, rfl, r9.dp hc.2.1, hc.2.2.1, py_nodict _, hc.2.2.2.1, big_size hc.2.2.2.2, q.val ci (.str _)⟩
    · cases e
  · cases e
/-! ### x[a:b] -/
def cutL {α : Type} (xs : List α) (lo hi : Option Int) : List α := (xs.drop (HT.sIx xs.length 0 lo)).take (HT.sIx xs.length xs.length hi - HT.sIx xs.length 0 lo)
theorem cut_rvs {xs : List V} {l : List D} {lo hi : Option Int} (r : RVs K C M H xs l []) : RVs K C M H (cutV xs lo hi) (cutL l lo hi) [] := by
  unfold cutV cutL
  rw [r.len]
  exact (r.drop0 _ rfl).take0 _ rfl
def slD (d : D) (lo hi : Option Int) : Option D := match d with
  | .tup l => if D.ofs l = true then some (.tup (cutL l lo hi)) else none
  | d => d.li2.map fun l => .own (cutL l lo hi)
def rSl2 (K : PySem.W.Frag) : V → Option Int → Option Int → Hp → VK → Prop := fun x lo hi H Q => rSlL K x lo hi H Q ∨ rSlA K x lo hi H Q
theorem or_sl : SlR X (rSl2 X.K) := sl_list.or sl_tupA
theorem sl_ok {lo hi : Option Int} {res : D} (ci : CI K C M H st) (r : RV K C M H v d o) (e : slD d lo hi = some res) (q : Ans K C M H res Q) : rSl2 K v lo hi H Q := by
  unfold slD at e
  split at e
  · split at e
    · rename_i l hf
      cases e
      obtain ⟨p, xs, rfl, t1, s1⟩ := ti_ok r hf
      refine .inr ⟨p, xs, rfl, t1, fun hw => ?_, fun _ p hp => ans_tup ci (cut_rvs s1) q hp⟩
      have el : cutL l lo hi = l := by
        unfold cutL
        rw [← s1.len, hw.1, hw.2, List.drop_zero, Nat.sub_zero, s1.len, List.take_length]
      rw [el] at q
      cases r with
      | @tup _ _ _ _ h r =>
        have := r.of hf
        subst this
        exact q.val ci (.tup h r)
    · cases e
  · rw [Option.map_eq_some_iff] at e
    obtain ⟨l, e1, rfl⟩ := e
    obtain ⟨p, xs, rfl, h1, r1⟩ := li2_ok e1 r
    exact .inl ⟨p, xs, rfl, h1, fun p hp => ans_new ci (cut_rvs r1) q hp⟩
abbrev OS := Env → Ms → Option (Option Int × Env × Ms)
def tO (K : PySem.W.Frag) (f : OS) : TO := fun σ H Q => ∃ C O M env st b env' st', FI K C O M H σ env st ∧ f env st = some (b, env', st') ∧
  ∀ H' C' O' M', Go False C O M H C' O' M' H' → FI K C' O' M' H' σ env' st' → Q b H'
def SO (X : Cx) (e : Option Expr) (f : OS) : Prop := PO X e (tO X.K f)
def oNo : OS := fun env st => some (none, env, st)
def oE (f : ES) : OS := fun env st => (f env st).bind fun x => match x.1 with
  | .int i => some (some i, x.2)
  | _ => none
theorem po_weak {e : Option Expr} {t t' : TO} (h : PO X e t) (i : ∀ σ H Q, t' σ H Q → t σ H Q) : PO X e t' := ⟨fun pins s σ H Q I q => h.run pins s σ H Q I (i σ H Q q)⟩
theorem so_no : SO X none oNo := po_weak po_none fun σ H Q ⟨C, O, M, env, st, d, env', st', fi, e, q⟩ => by
  cases e
  exact q H C O M .refl fi
theorem so_e {e : Expr} {f : ES} (h : SP X e f) : SO X (some e) (oE f) := po_weak (po_some h) fun σ H Q ⟨C, O, M, env, st, d, env', st', fi, e, q⟩ => by
  unfold oE at e
  rw [Option.bind_eq_some_iff] at e
  obtain ⟨⟨a, env1, st1⟩, e1, e⟩ := e
  dsimp only at e
  split at e
  · cases e
    refine ⟨C, O, M, env, st, _, env', st', fi, e1, fun v1 H1 C1 O1 M1 o1 g1 fi1 r1 n1 => ?_⟩
    cases r1
    exact ⟨_, rfl, q H1 C1 O1 M1 g1 fi1⟩
  · cases e
def fSl (f : ES) (lo hi : OS) : ES := fun env st => (f env st).bind fun x => (lo x.2.1 x.2.2).bind fun y => (hi y.2.1 y.2.2).bind fun z => (slD x.1 y.1 z.1).map fun r => (r, z.2)
theorem se_sl {e : Expr} {lo hi : Option Expr} {f : ES} {fl fh : OS} {pos p2 : Pos} (he : SP X e f) (hl : SO X lo fl) (hh : SO X hi fh) : SE X (.Subscript e (.Slice lo hi none p2) pos) (fSl f fl fh) := pe_weak (pe_slice or_sl he hl hh) fun σ H Q ⟨C, O, M, env, st, d, env', st', fi, e, q⟩ => by
  unfold fSl at e
  rw [Option.bind_eq_some_iff] at e
  obtain ⟨⟨a, env1, st1⟩, e1, e⟩ := e
  rw [Option.bind_eq_some_iff] at e
  obtain ⟨⟨b, env2, st2⟩, e2, e⟩ := e
  rw [Option.bind_eq_some_iff] at e
  obtain ⟨⟨c, env3, st3⟩, e3, e⟩ := e
  rw [Option.map_eq_some_iff] at e
  obtain ⟨r, e4, e⟩ := e
  cases e
  refine ⟨C, O, M, env, st, a, env1, st1, fi, e1, fun v1 H1 C1 O1 M1 o1 g1 fi1 r1 n1 => ⟨C1, O1, M1, env1, st1, b, env2, st2, fi1, e2, fun H2 C2 O2 M2 g2 fi2 => ⟨C2, O2, M2, env2, st2, c, env', st', fi2, e3, fun H3 C3 O3 M3 g3 fi3 => ?_⟩⟩⟩
  have g23 := g2.trans fi1.ci.tr g3
  exact sl_ok fi3.ci (g23.rv fi1.ci.mC r1 n1) e4 (ans_of fi (g1.trans fi.ci.tr g23) fi3 q)
end
end Pv

/-! # PvM -/
set_option Elab.async false
set_option linter.all false
set_option maxHeartbeats 1000000
/-! walks: range, zip, enumerate; unpacking; keywords -/
namespace Pv
open PySem PySem.Spec PyProof.Rows L2
section
variable {X : Cx} {K : PySem.W.Frag} {C O : List Addr} {M : Addr → Prop} {H : Hp} {st : Ms} {v v1 v2 : V} {d d1 d2 : D} {o o1 o2 os : List Addr} {Q : VK} {vs : List V} {σ : L2.St} {env env' : Env} {tg e a b c : Expr} {es : List Expr} {fs : AS} {f f1 f2 : ES} {p pos tpos : Pos}
def okR (n : Int) : Bool := decide (-1000000 ≤ n ∧ n ≤ 1000000)
theorem okR_le {n : Int} (h : okR n = true) : -1000000 ≤ n ∧ n ≤ 1000000 := of_decide_eq_true h
def wRng1 (fs : AS) : WS := fun env st => (fs env st).bind fun x => match x.1 with
  | [.int n] => if okR n = true then some (steps 0 1 n.toNat, x.2) else none
  | _ => none
def wRng2 (fs : AS) : WS := fun env st => (fs env st).bind fun x => match x.1 with
  | [.int m, .int n] => if okR m = true ∧ okR n = true then some (steps m 1 (n - m).toNat, x.2) else none
  | _ => none
def wRng3 (fs : AS) : WS := fun env st => (fs env st).bind fun x => match x.1 with
  | [.int m, .int n, .int k] => if okR m = true ∧ okR n = true ∧ k = -1 then some (steps m (-1) (m - n).toNat, x.2) else none
  | _ => none
theorem si_rng1 (hg : Gl X "range") (hm : X.mg "range" = none) (ha : SPs X [a] fs) (hs : starEach [a] X.env = [(false, eval a X.env)] := by rfl) : SI X tg (.Call (.Name "range" p) [a] [] pos) (wRng1 fs) := pi_weak (pi_range1 hg hm ha hs) fun σ H R ⟨C, O, M, env, st, ds, env', st', fi, e, q⟩ => by
  unfold wRng1 at e
  rw [Option.bind_eq_some_iff] at e
  obtain ⟨⟨a, env1, st1⟩, e1, e⟩ := e
  dsimp only at e
  split at e
  · split at e
    · rename_i n hc
      cases e
      have hb := okR_le hc
      refine ⟨C, O, M, env, st, _, env', st', fi, e1, fun vs H1 C1 O1 M1 o1 g1 fi1 r1 n1 => ?_⟩
      obtain ⟨v, rfl, r9⟩ := rvs_one r1
      cases r9
      exact ⟨_, rfl, by omega, by omega, q _ H1 C1 O1 M1 g1 fi1 itr_ok⟩
    · cases e
  · cases e
theorem si_rng2 (hg : Gl X "range") (hm : X.mg "range" = none) (ha : SPs X [a, b] fs) (hs : starEach [a, b] X.env = [(false, eval a X.env), (false, eval b X.env)] := by rfl) (hs2 : starEach [b] X.env = [(false, eval b X.env)] := by rfl) : SI X tg (.Call (.Name "range" p) [a, b] [] pos) (wRng2 fs) := pi_weak (pi_range2 hg hm ha hs hs2) fun σ H R ⟨C, O, M, env, st, ds, env', st', fi, e, q⟩ => by
  unfold wRng2 at e
  rw [Option.bind_eq_some_iff] at e
  obtain ⟨⟨a, env1, st1⟩, e1, e⟩ := e
  dsimp only at e
  split at e
  · split at e
    · rename_i m n hc
      cases e
      have hb := okR_le hc.1
      have hb2 := okR_le hc.2
      refine ⟨C, O, M, env, st, _, env', st', fi, e1, fun vs H1 C1 O1 M1 o1 g1 fi1 r1 n1 => ?_⟩
      obtain ⟨v, w, _, _, rfl, r9, r8⟩ := rvs_two r1
      cases r9
      cases r8
      exact ⟨_, _, rfl, by omega, q _ H1 C1 O1 M1 g1 fi1 itr_ok⟩
    · cases e
  · cases e
theorem rvs_three {d3 : D} (r : RVs K C M H vs [d1, d2, d3] os) : ∃ u v w o p q, vs = [u, v, w] ∧ RV K C M H u d1 o ∧ RV K C M H v d2 p ∧ RV K C M H w d3 q := by
  cases r with
  | cons h r =>
    obtain ⟨v, w, _, _, rfl, r2, r3⟩ := rvs_two r
    exact ⟨_, v, w, _, _, _, rfl, h, r2, r3⟩
theorem si_rng3 (hg : Gl X "range") (hm : X.mg "range" = none) (ha : SPs X [a, b, c] fs) (hs : starEach [a, b, c] X.env = (false, eval a X.env) :: starEach [b, c] X.env := by rfl) (hs2 : (backTo pos (starEach [b, c] X.env)).any (·.1) = false := by rfl) :
    SI X tg (.Call (.Name "range" p) [a, b, c] [] pos) (wRng3 fs) := pi_weak (pi_range3 hg hm ha hs hs2) fun σ H R ⟨C, O, M, env, st, ds, env', st', fi, e, q⟩ => by
  unfold wRng3 at e
  rw [Option.bind_eq_some_iff] at e
  obtain ⟨⟨a, env1, st1⟩, e1, e⟩ := e
  dsimp only at e
  split at e
  · split at e
    · rename_i m n k hc
      cases e
      have hb := okR_le hc.1
      have hb2 := okR_le hc.2.1
      have hk := hc.2.2
      subst hk
      refine ⟨C, O, M, env, st, _, env', st', fi, e1, fun vs H1 C1 O1 M1 o1 g1 fi1 r1 n1 => ?_⟩
      obtain ⟨u, v, w, _, _, _, rfl, r9, r8, r7⟩ := rvs_three r1
      cases r9
      cases r8
      cases r7
      exact ⟨_, _, _, _, rfl, RgC.neg (by omega) (by omega) (by omega) (by omega), q _ H1 C1 O1 M1 g1 fi1 itc_ok⟩
    · cases e
  · cases e
/-! ### zip, enumerate -/
def zipD (l m : List D) : List D := List.zipWith (fun x y => D.tup [x, y]) l m
def wZip (fs : AS) : WS := fun env st => (fs env st).bind fun x => match x.1 with
  | [.tup l, .tup m] => some (zipD l m, x.2)
  | [.lst l, .lst m] => some (zipD l m, x.2)
  | _ => none
theorem pair_ok {C1 : List Addr} {M1 : Addr → Prop} {H1 : Hp} {T : Addr} {x y : V} (t : ∀ a, M1 a → ∃ o, H1 a = some o) (hT : H1 T = none) (r1 : RV K C1 M1 H1 x d1 []) (r2 : RV K C1 M1 H1 y d2 []) : Gr M1 H1 M1 (upd H1 T (.tup [x, y])) ∧ RV K C1 M1 (upd H1 T (.tup [x, y])) (.ref T) (.tup [d1, d2]) [] := by
  have gr : Gr M1 H1 M1 (upd H1 T (.tup [x, y])) := .tup t hT
  exact ⟨gr, .tup (.inl ⟨upd_same, fun z => by
    obtain ⟨o, w⟩ := t T z
    rw [hT] at w; cases w⟩) (gr.rvs (.cons0 r1 (.cons0 r2 .nil)))⟩
theorem zip_at {l m : List D} {i : Nat} {z : D} (h : (zipD l m)[i]? = some z) : ∃ x y, l[i]? = some x ∧ m[i]? = some y ∧ z = .tup [x, y] := by
  unfold zipD at h
  rw [List.getElem?_zipWith] at h
  cases h1 : l[i]? with
  | none => rw [h1] at h; simp at h
  | some x =>
    cases h2 : m[i]? with
    | none => rw [h1, h2] at h; simp at h
    | some y =>
      rw [h1, h2] at h
      simp only [Option.some.injEq] at h
      exact ⟨x, y, rfl, rfl, h.symm⟩
theorem itz_ok {a b : Addr} {xs ys : List V} {l m : List D} (hC : ∀ p ∈ C, M p) (hO : ∀ p ∈ O, M p) (h : ∀ C1 O1 M1 H1, Go True C O M H C1 O1 M1 H1 → SqL K H1 a xs ∧ SqL K H1 b ys) (r : RVs K C M H xs l []) (r' : RVs K C M H ys m []) : ItOk K (Itz K a b) C O M (zipD l m) H := fun C1 O1 M1 H1 g t i => by
  have s1 : RVs K C1 M1 H1 xs l [] := g.rvs0 hC hO r
  have s2 : RVs K C1 M1 H1 ys m [] := g.rvs0 hC hO r'
  obtain ⟨q1, q2⟩ := h C1 O1 M1 H1 g
  refine ⟨fun hl => ⟨xs, ys, q1, q2, ?_⟩, fun z e => ?_⟩
  · unfold zipD at hl
    rw [List.length_zipWith] at hl
    rw [s1.len, s2.len]
    omega
  · obtain ⟨x, y, e1, e2, rfl⟩ := zip_at e
    obtain ⟨v, e3, rv⟩ := s1.get0 e1
    obtain ⟨w, e4, rw⟩ := s2.get0 e2
    refine ⟨⟨xs, ys, v, w, q1, q2, e3, e4⟩, fun u H2 hy => ?_⟩
    obtain ⟨T, x', y', rfl, hT, rfl, h1, h2⟩ := hy
    have z1 := (h1 xs q1).symm.trans e3
    have z2 := (h2 ys q2).symm.trans e4
    cases z1
    cases z2
    exact pair_ok t hT rv rw
theorem itzT_ok {a b : Addr} {xs ys : List V} {l m : List D} (hC : ∀ p ∈ C, M p) (hO : ∀ p ∈ O, M p) (h : ∀ C1 O1 M1 H1, Go True C O M H C1 O1 M1 H1 → SqT K H1 a xs ∧ SqT K H1 b ys) (r : RVs K C M H xs l []) (r' : RVs K C M H ys m []) : ItOk K (RZ.ItzT K a b) C O M (zipD l m) H := fun C1 O1 M1 H1 g t i => by
  have s1 : RVs K C1 M1 H1 xs l [] := g.rvs0 hC hO r
  have s2 : RVs K C1 M1 H1 ys m [] := g.rvs0 hC hO r'
  obtain ⟨q1, q2⟩ := h C1 O1 M1 H1 g
  refine ⟨fun hl => ⟨xs, ys, q1, q2, ?_⟩, fun z e => ?_⟩
  · unfold zipD at hl
    rw [List.length_zipWith] at hl
    rw [s1.len, s2.len]
    omega
  · obtain ⟨x, y, e1, e2, rfl⟩ := zip_at e
    obtain ⟨v, e3, rv⟩ := s1.get0 e1
    obtain ⟨w, e4, rw⟩ := s2.get0 e2
    refine ⟨⟨xs, ys, v, w, q1, q2, e3, e4⟩, fun u H2 hy => ?_⟩
    obtain ⟨T, x', y', rfl, hT, rfl, h1, h2⟩ := hy
    have z1 := (h1 xs q1).symm.trans e3
    have z2 := (h2 ys q2).symm.trans e4
    cases z1
    cases z2
    exact pair_ok t hT rv rw
theorem tr_keep {C1 O1 : List Addr} {M1 : Addr → Prop} {H1 : Hp} {a : Addr} {xs : List V} (g : Go True C O M H C1 O1 M1 H1) (hC : ∀ p ∈ C, M p) (hO : ∀ p ∈ O, M p) (h : TR K M H a xs) : SqT K H1 a xs := by
  rcases h with ⟨h, n⟩ | h
  · exact SqT.of (go_lr g hC hO h n)
  · exact h H1
theorem rvs_two0 (r : RVs K C M H vs [d1, d2] []) : ∃ v w, vs = [v, w] ∧ RV K C M H v d1 [] ∧ RV K C M H w d2 [] := by
  generalize hz : ([] : List Addr) = z at r
  cases r with
  | cons h r =>
    obtain ⟨e1, e2⟩ := List.append_eq_nil_iff.mp hz.symm
    subst e1 e2
    generalize hy : ([] : List Addr) = y at r
    cases r with
    | cons h2 r =>
      obtain ⟨e1, e2⟩ := List.append_eq_nil_iff.mp hy.symm
      subst e1 e2
      cases r
      exact ⟨_, _, rfl, h, h2⟩
theorem rvs_one0 (r : RVs K C M H vs [d1] []) : ∃ v, vs = [v] ∧ RV K C M H v d1 [] := by
  generalize hz : ([] : List Addr) = z at r
  cases r with
  | cons h r =>
    obtain ⟨e1, e2⟩ := List.append_eq_nil_iff.mp hz.symm
    subst e1 e2
    cases r
    exact ⟨_, rfl, h⟩
theorem si_zip {elts : List Expr} {kk : Nat} (hg : Gl X "zip") (hm : X.mg "zip" = none) (ha : SZs X [a, b] fs) (hs : starEach [a, b] X.env = (false, eval a X.env) :: starEach [b] X.env := by rfl) (hpl : (backTo pos (starEach [b] X.env)).any (·.1) = false := by rfl) :
    SI X (.Tuple elts kk tpos) (.Call (.Name "zip" p) [a, b] [] pos) (wZip fs) := pi_weak (RZ.pi_zipA hg hm ha hs hpl) fun σ H R ⟨C, O, M, env, st, ds, env', st', fi, e, q⟩ => by
  unfold wZip at e
  rw [Option.bind_eq_some_iff] at e
  obtain ⟨⟨a, env1, st1⟩, e1, e⟩ := e
  dsimp only at e
  split at e
  · cases e
    refine ⟨C, O, M, env, st, _, env', st', fi, e1, fun vs H1 C1 O1 M1 g1 fi1 r1 => ?_⟩
    obtain ⟨v, w, rfl, r9, r8⟩ := rvs_two0 r1
    generalize hz : ([] : List Addr) = z at r9
    cases r9 with
    | @tup p xs _ _ h r =>
      subst hz
      generalize hz : ([] : List Addr) = z at r8
      cases r8 with
      | @tup p2 ys _ _ h2 r2 =>
        subst hz
        exact ⟨p, p2, xs, ys, rfl, .inr ⟨tr_keep .refl fi1.ci.mC fi1.mO h, tr_keep .refl fi1.ci.mC fi1.mO h2, q _ H1 C1 O1 M1 g1 fi1 (itzT_ok fi1.ci.mC fi1.mO (fun C2 O2 M2 H2 g2 => ⟨tr_keep g2 fi1.ci.mC fi1.mO h, tr_keep g2 fi1.ci.mC fi1.mO h2⟩) r r2)⟩⟩
  · cases e
    refine ⟨C, O, M, env, st, _, env', st', fi, e1, fun vs H1 C1 O1 M1 g1 fi1 r1 => ?_⟩
    obtain ⟨v, w, rfl, r9, r8⟩ := rvs_two0 r1
    cases r9 with
    | @lst p xs _ h r =>
      cases r8 with
      | @lst p2 ys _ h2 r2 =>
        exact ⟨p, p2, xs, ys, rfl, .inl ⟨SqL.of h.1, SqL.of h2.1, q _ H1 C1 O1 M1 g1 fi1 (itz_ok fi1.ci.mC fi1.mO (fun C2 O2 M2 H2 g2 => ⟨SqL.of (go_lr g2 fi1.ci.mC fi1.mO h.1 h.2), SqL.of (go_lr g2 fi1.ci.mC fi1.mO h2.1 h2.2)⟩) r r2)⟩⟩
  · cases e
/-! ### enumerate -/
def enumD : Nat → List D → List D
  | _, [] => []
  | i, d :: l => .tup [.int (i : Int), d] :: enumD (i + 1) l
theorem enum_len : ∀ (l : List D) (i : Nat), (enumD i l).length = l.length
  | [], _ => rfl
  | d :: l, i => by simp [enumD, enum_len l (i + 1)]
theorem enum_at : ∀ (l : List D) (k i : Nat) (z : D), (enumD k l)[i]? = some z → ∃ x, l[i]? = some x ∧ z = .tup [.int ((k + i : Nat) : Int), x]
  | [], k, i, z, h => by simp [enumD] at h
  | d :: l, k, 0, z, h => by
    simp only [enumD, List.getElem?_cons_zero, Option.some.injEq] at h
    exact ⟨d, rfl, h.symm⟩
  | d :: l, k, i + 1, z, h => by
    simp only [enumD, List.getElem?_cons_succ] at h
    obtain ⟨x, e1, e2⟩ := enum_at l (k + 1) i z h
    refine ⟨x, by simpa using e1, ?_⟩
    rw [e2, show k + 1 + i = k + (i + 1) by omega]
def IteT (K : PySem.W.Frag) (a : Addr) : It :=
  ⟨fun i H => ∃ (xs : List V) (x : V), SqT K H a xs ∧ xs[i]? = some x, fun i H v H' => ∃ T x, v = .ref T ∧ H T = none ∧ H' = upd H T (.tup [.int (i : Nat), x]) ∧ ∀ xs, SqT K H a xs → xs[i]? = some x, fun i H => ∃ xs : List V, SqT K H a xs ∧ xs.length ≤ i⟩
theorem ite_ok {a : Addr} {xs : List V} {l : List D} (hC : ∀ p ∈ C, M p) (hO : ∀ p ∈ O, M p) (h : ∀ C1 O1 M1 H1, Go True C O M H C1 O1 M1 H1 → SqL K H1 a xs) (r : RVs K C M H xs l []) : ItOk K (Ite K a) C O M (enumD 0 l) H := fun C1 O1 M1 H1 g t i => by
  have s1 : RVs K C1 M1 H1 xs l [] := g.rvs0 hC hO r
  have q1 := h C1 O1 M1 H1 g
  refine ⟨fun hl => ⟨xs, q1, ?_⟩, fun z e => ?_⟩
  · rw [enum_len] at hl
    rw [s1.len]
    exact hl
  · obtain ⟨x, e1, rfl⟩ := enum_at l 0 i z e
    obtain ⟨v, e3, rv⟩ := s1.get0 e1
    refine ⟨⟨xs, v, q1, e3⟩, fun u H2 hy => ?_⟩
    obtain ⟨T, x', rfl, hT, rfl, h1⟩ := hy
    have z1 := (h1 xs q1).symm.trans e3
    cases z1
    rw [Nat.zero_add]
    exact pair_ok t hT (.int _) rv
theorem iteT_ok {a : Addr} {xs : List V} {l : List D} (hC : ∀ p ∈ C, M p) (hO : ∀ p ∈ O, M p) (h : ∀ C1 O1 M1 H1, Go True C O M H C1 O1 M1 H1 → SqT K H1 a xs) (r : RVs K C M H xs l []) : ItOk K (IteT K a) C O M (enumD 0 l) H := fun C1 O1 M1 H1 g t i => by
  have s1 : RVs K C1 M1 H1 xs l [] := g.rvs0 hC hO r
  have q1 := h C1 O1 M1 H1 g
  refine ⟨fun hl => ⟨xs, q1, ?_⟩, fun z e => ?_⟩
  · rw [enum_len] at hl
    rw [s1.len]
    exact hl
  · obtain ⟨x, e1, rfl⟩ := enum_at l 0 i z e
    obtain ⟨v, e3, rv⟩ := s1.get0 e1
    refine ⟨⟨xs, v, q1, e3⟩, fun u H2 hy => ?_⟩
    obtain ⟨T, x', rfl, hT, rfl, h1⟩ := hy
    have z1 := (h1 xs q1).symm.trans e3
    cases z1
    rw [Nat.zero_add]
    exact pair_ok t hT (.int _) rv
theorem draws_tup {prog : Program} {w : World} {A : Around} (hh : A.handled = none) (it l : Addr) (hne : l ≠ it) (items : Array Value) :
    Draws prog w A it [it, l] items.size (fun i v => items[i]? = some v) (fun i h => h.IsTupleIter it l i ∧ h.IsTuple l items) where
  live := fun _ _ st => let ⟨o, ho, _⟩ := st.1; ⟨o, ho⟩
  frame := fun _ _ _ st hk => ⟨let ⟨o, ho, r⟩ := st.1; ⟨o, hk it (by simp) o ho, r⟩, let ⟨o, ho, r⟩ := st.2; ⟨o, hk l (by simp) o ho, r⟩⟩
  item := fun i s Q E hi st hQ => by
    refine wpAny_nextOf_tuple_item st.1 st.2 (x := items[i]) (by simp [hi]) fun h' hit' hs' => ?_
    exact hQ _ h' s.toks (by simp [hi]) ⟨hit', st.2.extBut hs'.extBut hne⟩ hs'
  done := fun s Q E st hE => wpAny_nextOf_tuple_end hh st.1 st.2 (by simp) hE
theorem next_enumT_end {prog : Program} {w : World} {A : Around} {E : Value → Shared → Prop} {s : Shared} {e it l : Addr} {i : Nat} {items : Array Value} {old : Value} {Q : Option Value → Shared → Prop} (hh : A.handled = none)
    (he : IsEnum s.heap e it i old) (hit : s.heap.IsTupleIter it l i) (hl : s.heap.IsTuple l items) (hx : items[i]? = none) (hQ : ∀ h2, Heap.ExtBut it s.heap h2 → Q none { s with heap := h2 }) : wpAny (model prog w) A (pyNext (.ref e)) Q E s := by
  have tE : s.TypeIs (.ref e) "enumerate" := ⟨_, he, rfl⟩
  unfold pyNext
  refine wpAny_bind (wpAny_attempt (wpAny_callSpecial?_slot (name := Str.ofString "__next__") tE F.slot_enumerate_next (wpAny_call_entry F.slot_enumerate_next tE F.entry_enumerate_next ?_ (F.args_enumerate_next_1 _))))
  refine (show wpAny _ _ (field (.ref e) 2 >>= _) _ _ _ from wpAny_bind (wpAny_field he rfl (x := .ref it) rfl (wpAny_bind (wpAny_nextOf_tuple_end hh hit hl hx fun h2 x e2 hx2 => ?_))))
  obtain ⟨o, ho, hc⟩ := hx2
  exact wpAny_bind (wpAny_isInstance (T := "StopIteration") (b := true) ⟨o, ho, hc⟩ isSubtype_stop (wpAny_pure (hQ _ e2)))
theorem turn_enumT {P : Program} {w : World} {elts : List Expr} {kk : Nat} (a e it : Addr) :
    Turn P w K (.Tuple elts kk tpos) (IteT K a) [e, it] e (fun i h => (∃ old, IsEnum h e it ((i : Nat) : Int) old) ∧ h.IsTupleIter it a i ∧ e ≠ it ∧ a ≠ it ∧ e ≠ a) where
  mem := by simp
  obj := fun i h st b hb => by
    obtain ⟨⟨old, he⟩, ⟨o, ho, hc, hd⟩, _⟩ := st
    rcases (show b = e ∨ b = it by simpa using hb) with z | z
    · rw [z]
      exact ⟨_, he, fun v q => nomatch q⟩
    · rw [z]
      exact ⟨o, ho, fun v q => by rw [hd] at q; cases q⟩
  keep := fun i h h' st k => let ⟨⟨old, he⟩, ⟨o, ho, r⟩, hne⟩ := st; ⟨⟨old, k e (by simp) _ he⟩, ⟨o, k it (by simp) _ ho, r⟩, hne⟩
  item := by
    intro X hP hw hK hc i pins s σ H E I hf st hg
    subst hP hw hK
    obtain ⟨⟨old, he⟩, hit, hne, hai, hea⟩ := st
    obtain ⟨xs, x, hq, hx⟩ := hg
    obtain ⟨its, rv, p, hz⟩ := I.tuple hq
    obtain ⟨u, hu, ru⟩ := rv.get hx
    have hel : e < s.heap.objs.size := Heap.lt_size he
    have hil : it < s.heap.objs.size := by obtain ⟨_, q, _⟩ := hit; exact Heap.lt_size q
    have hT : s.heap.IsTuple a its.toArray := by obtain ⟨o, ho, hc', n, hd⟩ := p; exact ⟨o, ho, hc', n, hd⟩
    have hlt : i < its.toArray.size := by
      rw [List.size_toArray]
      exact (List.getElem?_eq_some_iff.mp hu).1
    refine wpAny_pyNext_enum_itemD (draws_tup (A := X.A.in1) (I.ok.hd hc) it a hai its.toArray) he ⟨hit, hT⟩ hlt hne (by simp [hne, hea]) fun y h' tk hy ho st' hT1 hsz hk => ?_
    have ey : y = u := by
      have : its[i]? = some y := by simpa using hy
      rw [hu] at this
      exact (Option.some.inj this).symm
    subst ey
    refine ⟨_, rfl, wpAny_letOwnedTupleGo_enum (s := { s with heap := h', toks := tk + 1 }) ho fun h'' he' sb => ?_⟩
    have hT2 : h''.get? s.heap.objs.size = some { cls := .type "tuple", data := .seq #[.int i tk, y] } := (sb.2 _ (Nat.ne_of_gt hel)).trans hT1
    have new : ObjOk X.prog X.w (upd H s.heap.objs.size (.tup [.int (i : Nat), x])) h'' s.heap.objs.size (.tup [.int (i : Nat), x]) :=
      ⟨by show 2 ≤ sizeLine; decide, [.int i tk, y], .cons ⟨_, rfl⟩ (.cons ru .nil), ⟨_, hT2, rfl, _, rfl⟩⟩
    have I1 : Inv X pins σ (upd H s.heap.objs.size (.tup [.int (i : Nat), x])) { s with heap := h'', toks := tk + 1 } :=
      I.turnedNew (ch := [e, it]) (fun b ob hb q => (sb.2 b (fun z => hb (by simp [z]))).trans (hk b ob (fun z => hb (by simp [z])) (fun z => hb (by simp [z])) q)) hf (Nat.le_refl _) new
    have hit2 : h''.IsTupleIter it a (i + 1) := by obtain ⟨o, ho', r⟩ := st'.1; exact ⟨o, (sb.2 it (Ne.symm hne)).trans ho', r⟩
    refine ⟨.ref s.heap.objs.size, _, I1, rfl, ⟨_, x, rfl, I.hok.fresh (Nat.le_refl _), rfl, fun ys hy => by rw [I.tuple_inj hy hq]; exact hx⟩, ⟨⟨y, ?_⟩, hit2, hne, hai, hea⟩, fun b hb => ?_⟩
    · rw [show ((i + 1 : Nat) : Int) = (i : Int) + 1 by omega]
      exact he'
    · have hb' : b < s.heap.objs.size := by
        rcases (show b = e ∨ b = it by simpa using hb) with z | z
        · rw [z]; exact hel
        · rw [z]; exact hil
      rw [upd_ne (Nat.ne_of_lt hb')]
      exact (hf b hb).1
  done := by
    intro X hP hw hK hc i pins s σ H E I hf st hg
    subst hP hw hK
    obtain ⟨⟨old, he⟩, hit, hne, hai, hea⟩ := st
    obtain ⟨xs, hq, hx⟩ := hg
    obtain ⟨its, rv, p, hz⟩ := I.tuple hq
    obtain ⟨f0, f1, f2, f3, f4, f5⟩ := hf it (by simp)
    have hT : s.heap.IsTuple a its.toArray := by obtain ⟨o, ho, hc', n, hd⟩ := p; exact ⟨o, ho, hc', n, hd⟩
    have hl := rv.length
    exact next_enumT_end (I.ok.hd hc) he hit hT (by simp; omega) fun h' eb => ⟨rfl, I.turned (t' := s.toks) (fun b o hb q => eb b o hb q) f0 f1 f3 f4 f5⟩
  self := fun A i s Q E st h => let ⟨⟨_, he⟩, _⟩ := st; wpAny_pyIter_enum he h
end
end Pv
namespace PySem
open Sem (wp)
open AutoSeq1 (wpAny_loadPart')
set_option maxRecDepth 100000
theorem meets_enumT (l : Addr) (items : Array Value) (n : Nat) (dct : Option Addr) (sl : Array (Option Value)) : Meets (Builtin.«enumerate.__new__» ⟨[.type "enumerate", .ref l], []⟩) (fun _ R s =>
    s.heap.get? l = some { cls := .type "tuple", dict := dct, data := .seq items n, slots := sl } ∧ R (.ok (.ret (.ref (s.heap.push { cls := .type "tuple_iterator", data := .fields #[.ref l, .int 0 0] }).objs.size)))
      { s with heap := (s.heap.push { cls := .type "tuple_iterator", data := .fields #[.ref l, .int 0 0] }).push { cls := .type "enumerate", data := .fields #[.none, .bool false, .ref s.heap.objs.size, rawInt 0, .none, .none] } }) := .of_wp fun prog w A R s h => by
    obtain ⟨hp, g, d, tk, os⟩ := s; obtain ⟨hl, h⟩ := h
    have hsub := sub_enumerate
    have hT : Heap.IsTuple (Shared.heap ⟨hp, g, d, tk, os⟩) l items := ⟨_, hl, rfl, n, rfl⟩
    wp_walk using wpAny_loadPart' hl
    refine wpAny_stack_any fun st => wpAny_pure ?_
    split
    · rename_i c _ _ _ _ _
      cases (c == Value.type "enumerate") <;> (wp_walk using wpAny_loadPart' hl, wpAny_pyIter_tuple hT; exact ⟨_, rfl, h⟩)
    · wp_walk using wpAny_loadPart' hl, wpAny_pyIter_tuple hT
      exact ⟨_, rfl, h⟩
theorem call_enumerate_tupleT {prog : Program} {w : World} {A : Around} {E : Value → Shared → Prop} {s : Shared} {l : Addr} {items : Array Value} {Q : Value → Shared → Prop} (hL : s.heap.IsTuple l items)
    (h : ∀ h', IsEnum h' (s.heap.objs.size + 1) s.heap.objs.size 0 .none → h'.IsTupleIter s.heap.objs.size l 0 → (∀ b o, s.heap.get? b = some o → h'.get? b = some o) → Q (.ref (s.heap.objs.size + 1)) { s with heap := h' }) :
    wpAny (model prog w) A (call (.type "enumerate") [.ref l]) Q E s := by
  obtain ⟨⟨c, dct, dt, sl⟩, hl, hc, n, hd⟩ := hL
  obtain rfl : c = .type "tuple" := hc
  obtain rfl : dt = .seq items n := hd
  refine callType_new F.called_enumerate (by decide) (F.typeCall_enumerate_1 _) (F.newCall_enumerate_1 _) (fun obj => F.args_object_init_2 obj _) F.entry_enumerate_new (meets_enumT l items n dct sl) ⟨hl, ?_⟩
  have hz : (s.heap.push { cls := .type "tuple_iterator", data := .fields #[.ref l, .int 0 0] }).objs.size = s.heap.objs.size + 1 := Heap.size_push ..
  have he : IsEnum ((s.heap.push { cls := .type "tuple_iterator", data := .fields #[.ref l, .int 0 0] }).push { cls := .type "enumerate", data := .fields #[.none, .bool false, .ref s.heap.objs.size, rawInt 0, .none, .none] }) (s.heap.objs.size + 1) s.heap.objs.size 0 .none := by
    have e1 := Heap.get?_push_size (s.heap.push { cls := .type "tuple_iterator", data := .fields #[.ref l, .int 0 0] }) (o := { cls := .type "enumerate", data := .fields #[.none, .bool false, .ref s.heap.objs.size, rawInt 0, .none, .none] }) rfl
    rw [hz] at e1
    exact e1
  show _ ∧ _
  rw [hz]
  exact ⟨⟨_, he, rfl⟩, h _ he ⟨_, Heap.get?_push_of_some _ (Heap.get?_push_size _ rfl), rfl, rfl⟩ fun b o x => Heap.get?_push_of_some _ (Heap.get?_push_of_some _ x)⟩
end PySem
namespace Pv
open PySem PySem.Spec PyProof.Rows L2
section
variable {X : Cx} {K : PySem.W.Frag} {C O : List Addr} {M : Addr → Prop} {H : Hp} {st : Ms} {v v1 v2 : V} {d d1 d2 : D} {o o1 o2 os : List Addr} {Q : VK} {vs : List V} {σ : L2.St} {env env' : Env} {tg e a b c : Expr} {es : List Expr} {fs : AS} {f f1 f2 : ES} {p pos tpos : Pos}
def iEnumA (K : PySem.W.Frag) (ta : TA) : TI := fun σ H R => ta σ H fun vs H1 => ∃ a xs, vs = [.ref a] ∧ ((SqL K H1 a xs ∧ R (Ite K a) H1) ∨ (SqT K H1 a xs ∧ R (IteT K a) H1))
theorem pi_enumA {elts : List Expr} {kk : Nat} {ta : TA} (hg : Gl X "enumerate") (hm : X.mg "enumerate" = none) (ha : PA X [e] ta) (hs : starEach [e] X.env = [(false, eval e X.env)] := by rfl) : PI X (.Tuple elts kk tpos) (.Call (.Name "enumerate" p) [e] [] pos) (iEnumA X.K ta) := by
  refine ⟨fun pins s σ H R I h => Call_ (ld_blt I hg hm boot_enumerate (PyProof.Rows.callWith_type1 (thn (ha.run pos pins s σ H _ I h) fun us s1 ⟨vs, H1, I1, r1, q1⟩ => ?_) hs rfl))⟩
  obtain ⟨a, xs, rfl, hq⟩ := q1
  obtain ⟨u, rfl, rv⟩ := Vals.one r1
  cases rv
  have fp : ∀ b ∈ [s1.heap.objs.size + 1, s1.heap.objs.size], FpOk X pins H1 b := fun b hb => by
    have hle : s1.heap.objs.size ≤ b := by
      rcases (show b = s1.heap.objs.size + 1 ∨ b = s1.heap.objs.size by simpa using hb) with z | z <;> omega
    exact I1.fpOk hle (I1.hok.fresh hle)
  rcases hq with ⟨hq, q⟩ | ⟨hq, q⟩
  · obtain ⟨its, rv, pl, hz⟩ := I1.list hq
    exact call_enumerate_list pl.isList fun h' he hit hsz hk => wpAny_pyIter_enum he ⟨_, [s1.heap.objs.size + 1, s1.heap.objs.size], _, _, H1, rfl, I1.kept (t' := s1.toks) hk, turn_enum a (s1.heap.objs.size + 1) s1.heap.objs.size, ⟨⟨.none, he⟩, hit, Nat.succ_ne_self _⟩, fp, q⟩
  · obtain ⟨its, rv, pl, hz⟩ := I1.tuple hq
    have hT : s1.heap.IsTuple a its.toArray := by obtain ⟨o, ho, hc', n, hd⟩ := pl; exact ⟨o, ho, hc', n, hd⟩
    have hlt : a < s1.heap.objs.size := by obtain ⟨o, ho, _⟩ := hT; exact Heap.lt_size ho
    exact call_enumerate_tupleT hT fun h' he hit hk => wpAny_pyIter_enum he ⟨_, [s1.heap.objs.size + 1, s1.heap.objs.size], _, _, H1, rfl, I1.kept (t' := s1.toks) hk, turn_enumT a (s1.heap.objs.size + 1) s1.heap.objs.size, ⟨⟨.none, he⟩, hit, Nat.succ_ne_self _, Nat.ne_of_lt hlt, Nat.ne_of_gt (Nat.lt_succ_of_lt hlt)⟩, fp, q⟩
def wEnum (fs : AS) : WS := fun env st => (fs env st).bind fun x => match x.1 with
  | [.tup l] => some (enumD 0 l, x.2)
  | [.lst l] => some (enumD 0 l, x.2)
  | _ => none
theorem si_enum {elts : List Expr} {kk : Nat} (hg : Gl X "enumerate") (hm : X.mg "enumerate" = none) (ha : SZs X [e] fs) (hs : starEach [e] X.env = [(false, eval e X.env)] := by rfl) : SI X (.Tuple elts kk tpos) (.Call (.Name "enumerate" p) [e] [] pos) (wEnum fs) := pi_weak (pi_enumA hg hm ha hs) fun σ H R ⟨C, O, M, env, st, ds, env', st', fi, e, q⟩ => by
  unfold wEnum at e
  rw [Option.bind_eq_some_iff] at e
  obtain ⟨⟨a, env1, st1⟩, e1, e⟩ := e
  dsimp only at e
  split at e
  · cases e
    refine ⟨C, O, M, env, st, _, env', st', fi, e1, fun vs H1 C1 O1 M1 g1 fi1 r1 => ?_⟩
    obtain ⟨v, rfl, r9⟩ := rvs_one0 r1
    generalize hz : ([] : List Addr) = z at r9
    cases r9 with
    | @tup p xs _ _ h r =>
      subst hz
      exact ⟨p, xs, rfl, .inr ⟨tr_keep .refl fi1.ci.mC fi1.mO h, q _ H1 C1 O1 M1 g1 fi1 (iteT_ok fi1.ci.mC fi1.mO (fun C2 O2 M2 H2 g2 => tr_keep g2 fi1.ci.mC fi1.mO h) r)⟩⟩
  · cases e
    refine ⟨C, O, M, env, st, _, env', st', fi, e1, fun vs H1 C1 O1 M1 g1 fi1 r1 => ?_⟩
    obtain ⟨v, rfl, r9⟩ := rvs_one0 r1
    cases r9 with
    | @lst p xs _ h r =>
      exact ⟨p, xs, rfl, .inl ⟨SqL.of h.1, q _ H1 C1 O1 M1 g1 fi1 (ite_ok fi1.ci.mC fi1.mO (fun C2 O2 M2 H2 g2 => SqL.of (go_lr g2 fi1.ci.mC fi1.mO h.1 h.2)) r)⟩⟩
  · cases e
/-! ### list(range(n)), list(range(a, b)) -/
def rgD (a b : Int) : List D := steps a 1 (b - a).toNat
theorem rgD_ok {x y : Int} : RVs K C M H (rgV x y) (rgD x y) [] := by
  unfold rgV rgD steps
  generalize (y - x).toNat = n
  have : ∀ l : List Nat, RVs K C M H (l.map fun i => V.int (x + (i : Nat))) (l.map fun (i : Nat) => D.int (x + (i : Int) * 1)) [] := by
    intro l
    induction l with
    | nil => exact .nil
    | cons i l ih =>
      rw [List.map_cons, List.map_cons, Int.mul_one]
      exact RVs.cons0 (.int _) ih
  exact this _
def fLrg1 (f : ES) : ES := fun env st => (f env st).bind fun x => match x.1 with
  | .int n => if okR n = true then some (.own (rgD 0 n), x.2) else none
  | _ => none
theorem se_lrg1 {p2 pos2 : Pos} (hc : X.calm = true) (hg : Gl X "list") (hm : X.mg "list" = none) (hg2 : Gl X "range") (hm2 : X.mg "range" = none) (ha : SP X a f) (na : starEach [a] X.env = (false, eval a X.env) :: starEach [] X.env := by rfl)
    (nb : starEach [.Call (.Name "range" p) [a] [] pos] X.env = (false, eval (.Call (.Name "range" p) [a] [] pos) X.env) :: starEach [] X.env := by rfl) :
    SE X (.Call (.Name "list" p2) [.Call (.Name "range" p) [a] [] pos] [] pos2) (fLrg1 f) := pe_weak (pe_listRg hc hg hm (prg_1 hg2 hm2 ha na) nb) fun σ H Q ⟨C, O, M, env, st, d, env', st', fi, e, q⟩ => by
  unfold fLrg1 at e
  rw [Option.bind_eq_some_iff] at e
  obtain ⟨⟨a, env1, st1⟩, e1, e⟩ := e
  dsimp only at e
  split at e
  · split at e
    · rename_i n hb
      cases e
      have hb2 := okR_le hb
      refine ⟨C, O, M, env, st, _, env', st', fi, e1, fun v1 H1 C1 O1 M1 o1 g1 fi1 r1 n1 => ?_⟩
      cases r1
      exact ⟨n, rfl, ⟨by omega, by omega, by omega, by omega, by omega⟩, fun p hp => ans_new fi1.ci rgD_ok (ans_of fi g1 fi1 q) hp⟩
    · cases e
  · cases e
/-! ### a, b = e -/
def gNames : List Nat → TGs
  | [] => gNil
  | i :: is => gCons (gName i) (gNames is)
def setAll : List Nat → List D → Env → Option Env
  | [], [], env => some env
  | i :: is, d :: ds, env => if i < env.length then setAll is ds (env.set i (some d)) else none
  | _, _, _ => none
theorem names_ok : ∀ (is : List Nat) {ds : List D} {vs : List V} {os : List Addr} {O : List Addr} {σ : L2.St} {env env' : Env} {Q : L2.St → Hp → Prop}, FI K C O M H σ env st → RVs K C M H vs ds os → os.Nodup → (∀ a ∈ os, a ∉ C ∧ a ∉ O ∧ M a) → setAll is ds env = some env' →
    (∀ σ' O', FI K C O' M H σ' env' st → (∀ a ∈ O', a ∈ O ∨ a ∈ os) → Q σ' H) → gNames is vs σ H Q
  | [], ds, vs, os, O, σ, env, env', Q, fi, r, nd, n, e, q => by
    cases r with
    | nil =>
      simp only [setAll, Option.some.injEq] at e
      subst e
      exact ⟨rfl, q σ O fi fun _ h => .inl h⟩
    | cons => simp [setAll] at e
  | i :: is, ds, vs, os, O, σ, env, env', Q, fi, r, nd, n, e, q => by
    cases r with
    | nil => simp [setAll] at e
    | @cons v vs d ds o1 o2 h r =>
      simp only [setAll] at e
      split at e
      · rename_i hi
        rw [List.nodup_append] at nd
        obtain ⟨nd1, nd2, nd3⟩ := nd
        obtain ⟨O1, f1, s1⟩ := fi.set hi h nd1 fun a ha => n a (List.mem_append_left _ ha)
        refine ⟨v, vs, rfl, names_ok is f1 r nd2 (fun a ha => ?_) e fun σ' O' f' s' => q σ' O' f' fun a ha => ?_⟩
        · obtain ⟨m1, m2, m3⟩ := n a (List.mem_append_right _ ha)
          refine ⟨m1, fun z => ?_, m3⟩
          rcases s1 a z with w | w
          · exact m2 w
          · exact nd3 a w a ha rfl
        · rcases s' a ha with w | w
          · rcases s1 a w with w | w
            · exact .inl w
            · exact .inr (List.mem_append_left _ w)
          · exact .inr (List.mem_append_right _ w)
      · cases e
def sUnp (is : List Nat) (f : ES) : SS := fun env st => (f env st).bind fun x => match x.1 with
  | .tup ds => if ds.length = is.length then (setAll is ds x.2.1).map fun e => .nx e x.2.2 else none
  | _ => none
theorem ts_unp {is : List Nat} {N : Ends} (h : tS K (sUnp is f) N σ H) : tAsg (tE K f) (gTup K is.length (gNames is)) N σ H := by
  obtain ⟨C, O, M, env, st, r, fi, e, q⟩ := h
  unfold sUnp at e
  rw [Option.bind_eq_some_iff] at e
  obtain ⟨⟨a, env1, st1⟩, e1, e⟩ := e
  dsimp only at e
  split at e
  · rename_i ds
    split at e
    · rename_i hl
      rw [Option.map_eq_some_iff] at e
      obtain ⟨env2, e2, rfl⟩ := e
      refine ⟨C, O, M, env, st, .tup ds, env1, st1, fi, e1, fun v H1 C1 O1 M1 os g1 fi1 r1 nd n1 => ?_⟩
      cases r1 with
      | @tup p xs _ _ h r =>
        refine ⟨p, xs, rfl, tr_keep .refl fi1.ci.mC fi1.mO h, r.len.trans hl, names_ok is fi1 r nd (fun a ha => ⟨(n1 a ha).1, (n1 a ha).2.1, (n1 a ha).2.2.1⟩) e2 fun σ' O' f' s' => ?_⟩
        refine q σ' H1 C1 O' M1 ⟨fun a o h1 _ h3 => g1.keep a o h1 (fun z => z.elim) h3, g1.pre, g1.weak.newc, g1.fresh, g1.forn, fun a ha => ?_, g1.back⟩ f'
        rcases s' a ha with z | z
        · exact g1.ownd a z
        · exact (n1 a z).2.2.2
    · cases e
  · cases e
theorem s1_unp {is : List Nat} {k : Nat} {ss : List Expr} {ex : Expr} {spos : Pos} (he : SE X ex f) (hg : PG X (.Tuple ss k tpos) (gTup X.K is.length (gNames is))) (hs : swapsWithSole [.Tuple ss k tpos] ex spos.line X.env = pure false := by rfl) (hw : swappedStores [.Tuple ss k tpos] ex X.env = pure none := by rfl)
    (h1 : (assignEach [.Tuple ss k tpos] X.env).map (·.2) = [assign (.Tuple ss k tpos) X.env] := by rfl) : SS1 X (.Assign [.Tuple ss k tpos] ex spos) (sUnp is f) := ps_weak (ps_asg he hg hs hw h1) fun _ _ _ h => ts_unp h
/-- x, y = e1, e2, two locals: no tuple is made -/
def sPar (i j : Nat) (fs : AS) : SS := fun env st => (fs env st).bind fun x => match x.1 with
  | [d1, d2] => (setAll [i, j] [d1, d2] x.2.1).map fun e => .nx e x.2.2
  | _ => none
theorem ts_par {i j : Nat} {N : Ends} (h : tS K (sPar i j fs) N σ H) : tPar i j (tEs K fs) N σ H := by
  obtain ⟨C, O, M, env, st, r, fi, e, q⟩ := h
  unfold sPar at e
  rw [Option.bind_eq_some_iff] at e
  obtain ⟨⟨a, env1, st1⟩, e1, e⟩ := e
  dsimp only at e
  split at e
  · rename_i d1 d2
    rw [Option.map_eq_some_iff] at e
    obtain ⟨env2, e2, rfl⟩ := e
    refine ⟨C, O, M, env, st, [d1, d2], env1, st1, fi, e1, fun vs H1 C1 O1 M1 os g1 fi1 r1 nd n1 => ?_⟩
    have w := names_ok [i, j] (Q := fun σ' H' => ∀ σ'' , σ' = σ'' → N.nx σ'' H') fi1 r1 nd (fun a ha => ⟨(n1 a ha).1, (n1 a ha).2.1, (n1 a ha).2.2.1⟩) e2 fun σ' O' f' s' σ'' e => by
      subst e
      refine q σ' H1 C1 O' M1 ⟨fun a o h1 _ h3 => g1.keep a o h1 (fun z => z.elim) h3, g1.pre, g1.weak.newc, g1.fresh, g1.forn, fun a ha => ?_, g1.back⟩ f'
      rcases s' a ha with z | z
      · exact g1.ownd a z
      · exact (n1 a z).2.2.2
    obtain ⟨v, r1', rfl, v2, r2', rfl, rfl, w⟩ := w
    exact ⟨v, v2, rfl, w _ rfl⟩
  · cases e
theorem s1_par {i j : Nat} {x y : Str} {px py pt : Pos} {kt k2 : Nat} {pt2 spos : Pos} (hc : X.calm = true) (hN : X.N.Nodup) (hi : X.N[i]? = some x) (hj : X.N[j]? = some y) (hij : i ≠ j) (hx : X.env.scope.names.lookup x = some .local) (hy : X.env.scope.names.lookup y = some .local) (ha : SEs X [a, b] fs)
    (hw : swappedStores [.Tuple [.Name x px, .Name y py] kt pt] (.Tuple [a, b] k2 pt2) X.env = pure (some [x, y])) (hs : swapsWithSole [.Tuple [.Name x px, .Name y py] kt pt] (.Tuple [a, b] k2 pt2) spos.line X.env = pure false := by rfl) :
    SS1 X (.Assign [.Tuple [.Name x px, .Name y py] kt pt] (.Tuple [a, b] k2 pt2) spos) (sPar i j fs) := ps_weak (ps_par hc hN hi hj hij hx hy ha hw hs) fun _ _ _ h => ts_par h
end
end Pv

/-! # PvN -/
set_option Elab.async false
set_option linter.all false
set_option maxHeartbeats 1000000
/-! keywords; the law's end -/
namespace Pv
open PySem PySem.Spec PyProof.Rows L2
section
variable {X : Cx} {k : Nat} {f : Addr} {fd : FuncData} {ps ks : List Str} {x : Str} {p pos kpos : Pos} {e : Expr} {es : List Expr} {kws : List Keyword} {m : FS} {fs fk : AS} {fe : ES} {nm : Option Str}
def SK (X : Cx) (kws : List Keyword) (fk : AS) : Prop := PK X kws (tZs X.K fk)
theorem pk_weak {t t' : TA} (h : PK X kws t) (i : ∀ σ H Q, t' σ H Q → t σ H Q) : PK X kws t' := ⟨fun pos pins s σ H Q I q => h.run pos pins s σ H Q I (i σ H Q q)⟩
theorem sk_nil : SK X [] aNil := pk_weak pk_nil fun σ H Q ⟨C, O, M, env, st, d, env', st', fi, e, q⟩ => by
  cases e
  exact q [] H C O M .refl fi .nil
theorem sk_cons (h : SZ X e fe) (r : SK X kws fk) : SK X (⟨nm, e, kpos⟩ :: kws) (aCons fe fk) := pk_weak (pk_cons h r) fun σ H Q ⟨C, O, M, env, st, d, env', st', fi, e, q⟩ => by
  unfold aCons at e
  rw [Option.bind_eq_some_iff] at e
  obtain ⟨⟨a, env1, st1⟩, e1, e⟩ := e
  rw [Option.map_eq_some_iff] at e
  obtain ⟨⟨c, env2, st2⟩, e2, e⟩ := e
  cases e
  refine ⟨C, O, M, env, st, a, env1, st1, fi, e1, fun v1 H1 C1 O1 M1 g1 fi1 r1 => ⟨C1, O1, M1, env1, st1, c, env', st', fi1, e2, fun v2 H2 C2 O2 M2 g2 fi2 r2 => ?_⟩⟩
  exact q (v1 :: v2) H2 C2 O2 M2 (g1.trans fi.ci.tr g2) fi2 (.cons0 (g2.rv fi1.ci.mC r1 fun a ha => nomatch ha) r2)
/-- how keywords are put in the parameters' order: places in the written row -/
def pmOf (is : List Nat) {α : Type} (us zs : List α) : List α := is.filterMap fun i => (us ++ zs)[i]?
def RVp (K : PySem.W.Frag) (C : List Addr) (M : Addr → Prop) (H : Hp) (v : V) (d : D) : Prop := RV K C M H v d []
theorem rvs_pm {K : PySem.W.Frag} {C : List Addr} {M : Addr → Prop} {H : Hp} (is : List Nat) {vs zs : List V} {ds es : List D} (r1 : RVs K C M H vs ds []) (r2 : RVs K C M H zs es []) : RVs K C M H (pmOf is vs zs) (pmOf is ds es) [] := by
  have r := r1.app0 r2
  unfold pmOf
  induction is with
  | nil => exact .nil
  | cons i is ih =>
    cases h : (ds ++ es)[i]? with
    | none =>
      have h2 : (vs ++ zs)[i]? = none := by
        rw [List.getElem?_eq_none_iff] at h ⊢
        rw [r.len]
        exact h
      rw [List.filterMap_cons_none h, List.filterMap_cons_none h2]
      exact ih
    | some d =>
      obtain ⟨v, hv, rv⟩ := r.get0 h
      rw [List.filterMap_cons_some h, List.filterMap_cons_some hv]
      exact .cons0 rv ih
theorem pm_rel {α β : Type} (R : α → β → Prop) (is : List Nat) {us zs : List α} {vs ws : List β} (h : Paired R us vs) (h2 : Paired R zs ws) : Paired R (pmOf is us zs) (pmOf is vs ws) := by
  have ha : ∀ {a b : List α} {c d : List β}, Paired R a c → Paired R b d → Paired R (a ++ b) (c ++ d) := by
    intro a b c d h h2
    induction h with
    | nil => exact h2
    | cons r _ ih => exact .cons r ih
  have hg : ∀ {a : List α} {c : List β} {i : Nat}, Paired R a c → (a[i]? = none ∧ c[i]? = none) ∨ ∃ x y, a[i]? = some x ∧ c[i]? = some y ∧ R x y := by
    intro a c i h
    induction h generalizing i with
    | nil => exact .inl ⟨by simp, by simp⟩
    | cons r _ ih =>
      cases i with
      | zero => exact .inr ⟨_, _, by simp, by simp, r⟩
      | succ i => simpa using ih (i := i)
  unfold pmOf
  induction is with
  | nil => exact .nil
  | cons i is ih =>
    rcases hg (i := i) (ha h h2) with ⟨e1, e2⟩ | ⟨x, y, e1, e2, r⟩
    · rw [List.filterMap_cons_none e1, List.filterMap_cons_none e2]
      exact ih
    · rw [List.filterMap_cons_some e1, List.filterMap_cons_some e2]
      exact .cons r ih
/-- the binding of n positional values and keywords ks: by the places is -/
theorem kb_mk {K : PySem.W.Frag} {is : List Nat} {n : Nat} (h : ∀ (s : Shared) (us ws : List Value), us.length = n → ws.length = ks.length → BindsTo s fd ⟨us, ks.zip ws⟩ (ps.zip (pmOf is us ws))) : KB K fd ps ks n (fun us ws => pmOf is us ws) :=
  ⟨fun s us ws _ h1 h2 => h s us ws h1 h2, fun R _ _ _ _ _ _ h1 h2 => pm_rel R is h1 h2⟩
def fCallK0 (m : FS) (is : List Nat) (nk : Nat) (fk : AS) : ES := fun env st => (fk env st).bind fun x => if x.1.length = nk then (m (pmOf is [] x.1) x.2.2).map fun y => (y.1, x.2.1, y.2) else none
theorem se_callK0 {is : List Nat} {nk : Nat} (F : FnG X.prog X.w X.K X.mg X.base k f fd ps (spM X.K m)) (hr : Room k X.A) (hgd : X.A.guards = some []) (hg : Gl X x) (hm : X.mg x = some (.ref f)) (hk : PySem.W.keepIn X.K (.ref f) = true) (hb : KB X.K fd ps ks 0 (fun us ws => pmOf is us ws)) (hn : ks.length = nk)
    (hkw : SK X kws fk) (hall : (backToKw pos (keywordEach kws X.env)).all (·.1.isSome) = true := by rfl) (hks : (backToKw pos (keywordEach kws X.env)).filterMap (·.1) = ks := by rfl)
    (hdb : (x == ("__debug__" : Str)) = false := by decide)
    (hpl : ((backTo pos (starEach [] X.env)).any (·.1) || (backToKw pos (keywordEach kws X.env)).any (·.1.isNone)) = false := by rfl) :
    SE X (.Call (.Name x p) [] kws pos) (fCallK0 m is nk fk) := pe_weak (pe_callKG0 F hr hgd hg hm hk hb hkw hall hks hdb hpl) fun σ H Q ⟨C, O, M, env, st, d, env', st', fi, e, q⟩ => by
  unfold fCallK0 at e
  rw [Option.bind_eq_some_iff] at e
  obtain ⟨⟨ds, env1, st1⟩, e1, e⟩ := e
  dsimp only at e
  split at e
  · rename_i hl
    rw [Option.map_eq_some_iff] at e
    obtain ⟨⟨r, st2⟩, e2, e⟩ := e
    simp only [Prod.mk.injEq] at e
    obtain ⟨e3, e4, e5⟩ := e
    subst e3 e4 e5
    exact ⟨C, O, M, env, st, ds, env1, st1, fi, e1, fun vs H1 C1 O1 M1 g1 fi1 rv1 => ⟨by rw [rv1.len, hl, hn], C1, M1, st1, pmOf is [] ds, r, st2, fi1.ci, rvs_pm is .nil rv1, e2, fun v H2 M2 os g ci rv nd n => call_done fi g1 fi1 q g ci rv nd n⟩⟩
  · cases e
def fCallK (m : FS) (is : List Nat) (n nk : Nat) (fs fk : AS) : ES := fun env st => (fs env st).bind fun x => (fk x.2.1 x.2.2).bind fun y => if x.1.length = n ∧ y.1.length = nk then (m (pmOf is x.1 y.1) y.2.2).map fun z => (z.1, y.2.1, z.2) else none
theorem se_callK {is : List Nat} {n nk : Nat} (F : FnG X.prog X.w X.K X.mg X.base k f fd ps (spM X.K m)) (hr : Room k X.A) (hgd : X.A.guards = some []) (hg : Gl X x) (hm : X.mg x = some (.ref f)) (hk : PySem.W.keepIn X.K (.ref f) = true) (hb : KB X.K fd ps ks n (fun us ws => pmOf is us ws)) (hn : ks.length = nk)
    (ha : SZs X (e :: es) fs) (hkw : SK X kws fk) (hall : (backToKw pos (keywordEach kws X.env)).all (·.1.isSome) = true := by rfl) (hks : (backToKw pos (keywordEach kws X.env)).filterMap (·.1) = ks := by rfl)
    (hdb : (x == ("__debug__" : Str)) = false := by decide) (he : starEach (e :: es) X.env = (false, eval e X.env) :: starEach es X.env := by rfl)
    (hpl : ((backTo pos (starEach (e :: es) X.env)).any (·.1) || (backToKw pos (keywordEach kws X.env)).any (·.1.isNone)) = false := by rfl) :
    SE X (.Call (.Name x p) (e :: es) kws pos) (fCallK m is n nk fs fk) := pe_weak (pe_callKG F hr hgd hg hm hk hb ha hkw hall hks hdb he hpl) fun σ H Q ⟨C, O, M, env, st, d, env', st', fi, e, q⟩ => by
  unfold fCallK at e
  rw [Option.bind_eq_some_iff] at e
  obtain ⟨⟨ds, env1, st1⟩, e1, e⟩ := e
  rw [Option.bind_eq_some_iff] at e
  obtain ⟨⟨zs, env2, st2⟩, e2, e⟩ := e
  dsimp only at e e2
  split at e
  · rename_i hl
    rw [Option.map_eq_some_iff] at e
    obtain ⟨⟨r, st3⟩, e3, e⟩ := e
    simp only [Prod.mk.injEq] at e
    obtain ⟨e4, e5, e6⟩ := e
    subst e4 e5 e6
    refine ⟨C, O, M, env, st, ds, env1, st1, fi, e1, fun vs H1 C1 O1 M1 g1 fi1 rv1 => ⟨C1, O1, M1, env1, st1, zs, env2, st2, fi1, e2, fun ws H2 C2 O2 M2 g2 fi2 rv2 => ⟨by rw [rv1.len, hl.1], by rw [rv2.len, hl.2, hn], C2, M2, st2, pmOf is ds zs, r, st3, fi2.ci, rvs_pm is (g2.rvs fi1.ci.mC rv1 fun a ha => nomatch ha) rv2, e3, fun v H3 M3 os g ci rv nd n => call_done fi (g1.trans fi.ci.tr g2) fi2 q g ci rv nd n⟩⟩⟩
  · cases e
end

/-! ### the law's end -/
theorem paired_ints : ∀ {vs : List Value} {ns : List Int}, IntsAre vs ns → Vals (ns.map V.int) vs
  | _, _, .nil => .nil
  | _, _, .cons n t h => .cons ⟨t, rfl⟩ (paired_ints h)
theorem no_ci {K : PySem.W.Frag} {H : Hp} : CI K [] (fun _ => False) H [] := ⟨rfl, fun i ds p e _ => by simp at e, .nil, fun p h => (nomatch h), fun p h => h.elim⟩
theorem law_G {P : Program} {w : World} {K : PySem.W.Frag} {mg mb : Str → Option Value} {k : Nat} {fa a : Addr} {fd : FuncData} {x : Str} {m : FS} {s₁ : Shared} {vs : List Value} {ns : List Int}
    (KX : K.In s₁.heap) (hns : s₁.heap.Ns mainGlobals mg) (hb : s₁.heap.Ns builtinsNs mb) (hbb : ∀ x : Str, x ≠ "__name__" → mb x = bootBuiltins x) (hlim : s₁.heap.NoLimit) (hg : s₁.gens = #[])
    (ha : s₁.heap.get? a = some { cls := .type "list", data := .seq vs.toArray }) (hi : IntsAre vs ns) (hl : ns.length ≤ sizeLine) (hr : Room k callerA)
    (F : ∀ base : Heap, K.In base → base.Ns mainGlobals mg → FnG P w K mg base k fa fd [x] (spM K m)) (hbind : ∀ (s : Shared) (u : Value), BindsTo s fd ⟨[u], []⟩ [(x, u)]) (hm : ∃ st, m [.scr ns] [] = some (.bl true, st)) :
    codeAny (model P w) callerA (.call (.ref fa) ⟨[.ref a], []⟩) (fun r s' => r = .ok (.ret (.bool true)) ∧ OldK s₁.heap s'.heap ∧ s'.os = s₁.os ∧ AllBare s'.gens) s₁ := by
  obtain ⟨stE, hm⟩ := hm
  have rv := paired_ints hi
  have go : ∀ H : Hp, (∀ b o, H b = some o → b = a ∧ o = .frz { cls := .type "list", data := .seq vs.toArray } (.lst (ns.map V.int)) ∧ K.lookup a = none) → ZR K (fun _ => False) H a (ns.map V.int) → HOk P w H s₁.heap →
      codeAny (model P w) callerA (.call (.ref fa) ⟨[.ref a], []⟩) (fun r s' => r = .ok (.ret (.bool true)) ∧ OldK s₁.heap s'.heap ∧ s'.os = s₁.os ∧ AllBare s'.gens) s₁ := by
    intro H only hz hok
    have notA : ∀ {b : Addr} {o : Obj} {es : Array DictEntry} {ep : Nat}, s₁.heap.get? b = some o → o.data = .dict es ep → H b = none := fun {b o es ep} e d => by
      cases q : H b with
      | none => rfl
      | some u =>
        obtain ⟨rfl, _⟩ := only b u q
        rw [ha] at e
        cases e
        have d' : Data.seq vs.toArray _ = Data.dict es ep := d
        cases d'
    have nsK : ∀ {b : Addr} {m : Str → Option Value}, s₁.heap.Ns b m → (hidT s₁.heap H).Ns b m := fun {b m} ⟨o, es, ep, e, d, r⟩ => ⟨o, es, ep, hidT_get e (notA e d), d, r⟩
    have kb : K.In (hidT s₁.heap H) := fun b o e => hidT_get (KX b o e) (by
      cases q : H b with
      | none => rfl
      | some u =>
        obtain ⟨rfl, _, z⟩ := only b u q
        rw [z] at e
        cases e)
    obtain ⟨mc, l1, l2⟩ := hlim
    have md : Mod K mg (hidT s₁.heap H) := ⟨kb, nsK hns, ⟨mb, nsK hb, hbb⟩, mc, nsK l1, l2⟩
    have e0 : Env0 P w K mg (hidT s₁.heap H) callerA [] s₁ H := ⟨rfl, md, fun b o e => of_hidT e, Nat.le_of_eq (hidT_size _ _), trivial, fun b hb => absurd (show b ∈ ([] : List Addr) from hb) (by simp), hok, .of_eq hg⟩
    have hsp : spM K m [.ref a] H (fun v _ => v = .bl true) (fun _ _ _ => False) :=
      ⟨[], fun _ => False, [], [.scr ns], .bl true, stE, no_ci, RVs.one (.scr hz), hm, fun v H' M' os _ _ rv _ _ => (rv_bl rv).1⟩
    refine codeAny_mono ((F _ kb (nsK hns)).run callerA [] s₁ H ⟨[.ref a], []⟩ [.ref a] [.ref a] _ _ hr rfl e0 (hbind s₁ (.ref a)) (.cons rfl .nil) hsp) fun r s' h => ?_
    cases r with
    | error e => exact h.elim
    | ok fl =>
      cases fl with
      | next => exact False.elim h
      | brk => exact False.elim h
      | cont => exact False.elim h
      | ret u =>
        obtain ⟨v, H', os, bare, un, hok', r', q⟩ := h
        obtain rfl : v = .bl true := q
        obtain rfl : u = Value.bool true := r'
        refine ⟨rfl, OldK.of_keep fun b o e => ?_, os, bare⟩
        cases q : H b with
        | none => exact un.keep b o e q (fun z => absurd (show b ∈ ([] : List Addr) from z) (by simp)) (by simp)
        | some u =>
          obtain ⟨rfl, rfl, _⟩ := only b u q
          obtain ⟨e2, _⟩ := hok' b _ (un.frzs b _ _ q)
          rw [ha] at e
          cases e
          exact e2
  cases hk : K.lookup a with
  | some o =>
    have e := KX a o hk
    rw [ha] at e
    cases e
    exact go (fun _ => none) (fun _ _ z => nomatch z) (.inr fun H' => .inr ⟨_, vs.toArray, _, hk, rfl, rfl, rfl, by rw [List.size_toArray, hi.length]; exact hl, by simpa using rv⟩) fun _ _ z => nomatch z
  | none =>
    refine go (fun b => if b = a then some (.frz { cls := .type "list", data := .seq vs.toArray } (.lst (ns.map V.int))) else none) (fun b o z => ?_) (.inl ⟨.inr ⟨{ cls := .type "list", data := .seq vs.toArray }, if_pos rfl⟩, fun z => z⟩) fun b u z => ?_
    · by_cases hb : b = a
      · have z' := (if_pos hb).symm.trans z
        cases z'
        exact ⟨hb, rfl, hk⟩
      · cases (if_neg hb).symm.trans z
    · by_cases hb : b = a
      · have z' := (if_pos hb).symm.trans z
        cases z'
        subst hb
        exact ⟨ha, by rw [List.length_map]; exact hl, vs, _, rv, ha⟩
      · cases (if_neg hb).symm.trans z
theorem walk_G {l : PySem.W.OpenLaw} {n k : Nat} {q : Program} {loose : List Str} {XP : (Str → Option Value) → Heap → Prop} {YP : World → Heap → Prop} {d : DefRec} {K : Params → PySem.W.Frag} {m : FS} {x : Str} (hn : l.most = some n) (hn2 : n ≤ sizeLine) (hdf : d.params.defaults = []) (hr : Room k callerA) (hY : ∀ (w : World) (h : Heap), YP w h → (K w.params).In h)
    (F : ∀ (w : World) (mg : Str → Option Value) (fa : Addr) (h : Heap), (K w.params).In h → h.Ns mainGlobals mg → mg d.name = some (.ref fa) → ∃ fd : FuncData, (∀ (s : Shared) (u : Value), BindsTo s fd ⟨[u], []⟩ [(x, u)]) ∧ ∀ base : Heap, (K w.params).In base → base.Ns mainGlobals mg → FnG l.prog w (K w.params) mg base k fa fd [x] (spM (K w.params) m))
    (hm : ∀ ns : List Int, ns.length ≤ n → ∃ st, m [.scr ns] [] = some (.bl true, st)) : PySem.W.WalkO q loose XP YP l.row.toRowW d [] (fun f vs => PySem.call f vs) := by
  refine Att.attach_call hn hdf fun w s₀ s₁ mg mb fa o pm cd doc a vs ns G Y ho hd hcd hmg hobj hints hlen hg => ?_
  have KX := hY w _ Y
  obtain ⟨fd, hb, hF⟩ := F w mg fa _ KX G.T.g hmg
  exact law_G KX G.T.g G.T.b G.T.builtins G.T.nolimit hg hobj hints (Nat.le_trans hlen hn2) hr hF hb (hm ns hlen)
end Pv

/-! # PvO -/
set_option Elab.async false
set_option linter.all false
set_option maxHeartbeats 1000000
/-! short forms for the printed terms -/
namespace Pv
open PySem PySem.Spec PyProof.Rows L2
section
variable {X : Cx} {e c a b elt tg iter ex : Expr} {es : List Expr} {pos p p2 pos2 tpos : Pos} {fe f1 f2 f : ES} {fs fk : AS} {x : Str} {kws : List Keyword}
theorem pi_or {t1 t2 : TI} (h1 : PI X tg e t1) (h2 : PI X tg e t2) : PI X tg e (fun σ H R => t1 σ H R ∨ t2 σ H R) := ⟨fun pins s σ H R I q => q.elim (h1.run pins s σ H R I) (h2.run pins s σ H R I)⟩
/-- over a list, the script or a tuple -/
def wSeq (f : ES) : WS := fun env st => (f env st).bind fun x => match x.1 with
  | .lst ds => some (ds, x.2)
  | .scr ns => some (ns.map D.int, x.2)
  | .tup ds => some (ds, x.2)
  | _ => none
theorem si_seq (h : SZ X e fe) : SI X tg e (wSeq fe) := pi_weak (pi_or (si_lst (tg := tg) h) (si_tup (tg := tg) h)) fun σ H R ⟨C, O, M, env, st, ds, env', st', fi, e, q⟩ => by
  unfold wSeq at e
  rw [Option.bind_eq_some_iff] at e
  obtain ⟨⟨d, env1, st1⟩, e1, e⟩ := e
  cases d with
  | lst l => exact .inl ⟨C, O, M, env, st, ds, env', st', fi, by unfold wLst; rw [e1]; exact e, q⟩
  | scr l => exact .inl ⟨C, O, M, env, st, ds, env', st', fi, by unfold wLst; rw [e1]; exact e, q⟩
  | tup l => exact .inr ⟨C, O, M, env, st, ds, env', st', fi, by unfold wTup; rw [e1]; exact e, q⟩
  | _ => cases e
theorem pe_ty {T : String} (hg : Gl X x) (hm : X.mg x = none) (hv : bootBuiltins x = some (.type T)) (hn : x ≠ "__name__" := by decide) (hdb : (x == ("__debug__" : Str)) = false := by decide) : PE X (.Name x pos) (tC (.ty T)) :=
  ⟨fun pins s σ H Q I h => ld_blt I hg hm hv ⟨.ty T, H, I, rfl, h⟩ hn hdb⟩
theorem kit_int : ∀ a ∈ tys, kitB a "int" = some (a == "int" || (a == "bool" && "int" == "int")) := by decide +kernel
theorem kit_bool : ∀ a ∈ tys, kitB a "bool" = some (a == "bool" || (a == "bool" && "bool" == "int")) := by decide +kernel
theorem kit_str : ∀ a ∈ tys, kitB a "str" = some (a == "str" || (a == "bool" && "str" == "int")) := by decide +kernel
theorem kit_tuple : ∀ a ∈ tys, kitB a "tuple" = some (a == "tuple" || (a == "bool" && "tuple" == "int")) := by decide +kernel
theorem kit_list : ∀ a ∈ tys, kitB a "list" = some (a == "list" || (a == "bool" && "list" == "int")) := by decide +kernel
theorem bt_len : bootBuiltins "len" = some (.builtin "len") := by decide +kernel
theorem bt_abs : bootBuiltins "abs" = some (.builtin "abs") := by decide +kernel
theorem bt_max : bootBuiltins "max" = some (.builtin "max") := by decide +kernel
theorem bt_min : bootBuiltins "min" = some (.builtin "min") := by decide +kernel
theorem bt_sum : bootBuiltins "sum" = some (.builtin "sum") := by decide +kernel
theorem bt_all : bootBuiltins "all" = some (.builtin "all") := by decide +kernel
theorem bt_any : bootBuiltins "any" = some (.builtin "any") := by decide +kernel
theorem bt_repr : bootBuiltins "repr" = some (.builtin "repr") := by decide +kernel
theorem bt_int : bootBuiltins "int" = some (.type "int") := by decide +kernel
theorem bt_bool : bootBuiltins "bool" = some (.type "bool") := by decide +kernel
theorem bt_str : bootBuiltins "str" = some (.type "str") := by decide +kernel
theorem bt_tuple : bootBuiltins "tuple" = some (.type "tuple") := by decide +kernel
theorem bt_list : bootBuiltins "list" = some (.type "list") := by decide +kernel
theorem isa_int (ga : Gl X "isinstance") (ma : X.mg "isinstance" = none) (gb : Gl X "int") (mb : X.mg "int" = none) (ha : SP X e f)
    (he : starEach (e :: [.Name "int" p2]) X.env = (false, eval e X.env) :: starEach [.Name "int" p2] X.env := by rfl) : SE X (.Call (.Name "isinstance" p) [e, .Name "int" p2] [] pos) (fIsa "int" f) := se_isa "int" kit_int ga ma ha (pe_ty gb mb bt_int) he
theorem isa_bool (ga : Gl X "isinstance") (ma : X.mg "isinstance" = none) (gb : Gl X "bool") (mb : X.mg "bool" = none) (ha : SP X e f)
    (he : starEach (e :: [.Name "bool" p2]) X.env = (false, eval e X.env) :: starEach [.Name "bool" p2] X.env := by rfl) : SE X (.Call (.Name "isinstance" p) [e, .Name "bool" p2] [] pos) (fIsa "bool" f) := se_isa "bool" kit_bool ga ma ha (pe_ty gb mb bt_bool) he
theorem isa_str (ga : Gl X "isinstance") (ma : X.mg "isinstance" = none) (gb : Gl X "str") (mb : X.mg "str" = none) (ha : SP X e f)
    (he : starEach (e :: [.Name "str" p2]) X.env = (false, eval e X.env) :: starEach [.Name "str" p2] X.env := by rfl) : SE X (.Call (.Name "isinstance" p) [e, .Name "str" p2] [] pos) (fIsa "str" f) := se_isa "str" kit_str ga ma ha (pe_ty gb mb bt_str) he
theorem isa_tuple (ga : Gl X "isinstance") (ma : X.mg "isinstance" = none) (gb : Gl X "tuple") (mb : X.mg "tuple" = none) (ha : SP X e f)
    (he : starEach (e :: [.Name "tuple" p2]) X.env = (false, eval e X.env) :: starEach [.Name "tuple" p2] X.env := by rfl) : SE X (.Call (.Name "isinstance" p) [e, .Name "tuple" p2] [] pos) (fIsa "tuple" f) := se_isa "tuple" kit_tuple ga ma ha (pe_ty gb mb bt_tuple) he
theorem isa_list (ga : Gl X "isinstance") (ma : X.mg "isinstance" = none) (gb : Gl X "list") (mb : X.mg "list" = none) (ha : SP X e f)
    (he : starEach (e :: [.Name "list" p2]) X.env = (false, eval e X.env) :: starEach [.Name "list" p2] X.env := by rfl) : SE X (.Call (.Name "isinstance" p) [e, .Name "list" p2] [] pos) (fIsa "list" f) := se_isa "list" kit_list ga ma ha (pe_ty gb mb bt_list) he
theorem b_len (hg : Gl X "len") (hm : X.mg "len" = none) (ha : SP X a f1) (he : starEach [a] X.env = (false, eval a X.env) :: starEach [] X.env := by rfl) : SE X (.Call (.Name "len" p) [a] [] pos) (fCl lenD (aCons f1 aNil)) := se_clB call_len ok_len hg hm bt_len (sps_cons ha sps_nil he) (by decide) (by decide) he
theorem b_abs (hg : Gl X "abs") (hm : X.mg "abs" = none) (ha : SP X a f1) (he : starEach [a] X.env = (false, eval a X.env) :: starEach [] X.env := by rfl) : SE X (.Call (.Name "abs" p) [a] [] pos) (fCl absD (aCons f1 aNil)) := se_clB call_abs ok_abs hg hm bt_abs (sps_cons ha sps_nil he) (by decide) (by decide) he
theorem b_max2 (hc : X.calm = true) (hg : Gl X "max") (hm : X.mg "max" = none) (ha : SP X a f1) (hb : SP X b f2) (he : starEach [a, b] X.env = (false, eval a X.env) :: starEach [b] X.env := by rfl) (he2 : starEach [b] X.env = (false, eval b X.env) :: starEach [] X.env := by rfl) (hpl : (backTo pos (starEach [b] X.env)).any (·.1) = false := by rfl) : SE X (.Call (.Name "max" p) [a, b] [] pos) (fCl max2D (aCons f1 (aCons f2 aNil))) := se_clB (call_max2 hc) ok_max2 hg hm bt_max (sps_cons ha (sps_cons hb sps_nil he2) he) (by decide) (by decide) he hpl
theorem b_min2 (hc : X.calm = true) (hg : Gl X "min") (hm : X.mg "min" = none) (ha : SP X a f1) (hb : SP X b f2) (he : starEach [a, b] X.env = (false, eval a X.env) :: starEach [b] X.env := by rfl) (he2 : starEach [b] X.env = (false, eval b X.env) :: starEach [] X.env := by rfl) (hpl : (backTo pos (starEach [b] X.env)).any (·.1) = false := by rfl) : SE X (.Call (.Name "min" p) [a, b] [] pos) (fCl min2D (aCons f1 (aCons f2 aNil))) := se_clB (call_min2 hc) ok_min2 hg hm bt_min (sps_cons ha (sps_cons hb sps_nil he2) he) (by decide) (by decide) he hpl
theorem b_sum (hc : X.calm = true) (hg : Gl X "sum") (hm : X.mg "sum" = none) (ha : SP X a f1) (he : starEach [a] X.env = (false, eval a X.env) :: starEach [] X.env := by rfl) : SE X (.Call (.Name "sum" p) [a] [] pos) (fCl sumD (aCons f1 aNil)) := se_clB (cr_sum hc) ok_sum hg hm bt_sum (sps_cons ha sps_nil he) (by decide) (by decide) he
theorem b_all (hc : X.calm = true) (hg : Gl X "all") (hm : X.mg "all" = none) (ha : SP X a f1) (he : starEach [a] X.env = (false, eval a X.env) :: starEach [] X.env := by rfl) : SE X (.Call (.Name "all" p) [a] [] pos) (fCl allD (aCons f1 aNil)) := se_clB (cr_all hc) ok_all hg hm bt_all (sps_cons ha sps_nil he) (by decide) (by decide) he
theorem b_any (hc : X.calm = true) (hg : Gl X "any") (hm : X.mg "any" = none) (ha : SP X a f1) (he : starEach [a] X.env = (false, eval a X.env) :: starEach [] X.env := by rfl) : SE X (.Call (.Name "any" p) [a] [] pos) (fCl anyD (aCons f1 aNil)) := se_clB (cr_any hc) ok_any hg hm bt_any (sps_cons ha sps_nil he) (by decide) (by decide) he
theorem b_max1 (hc : X.calm = true) (hu : X.A.units + 64 < cLine) (hg : Gl X "max") (hm : X.mg "max" = none) (ha : SP X a f1) (he : starEach [a] X.env = (false, eval a X.env) :: starEach [] X.env := by rfl) : SE X (.Call (.Name "max" p) [a] [] pos) (fCl (extD PySem.W.maxD) (aCons f1 aNil)) := se_clB (call_maxD hc hu) ok_ext hg hm bt_max (sps_cons ha sps_nil he) (by decide) (by decide) he
theorem b_min1 (hc : X.calm = true) (hu : X.A.units + 64 < cLine) (hg : Gl X "min") (hm : X.mg "min" = none) (ha : SP X a f1) (he : starEach [a] X.env = (false, eval a X.env) :: starEach [] X.env := by rfl) : SE X (.Call (.Name "min" p) [a] [] pos) (fCl (extD PySem.W.minD) (aCons f1 aNil)) := se_clB (call_minD hc hu) ok_ext hg hm bt_min (sps_cons ha sps_nil he) (by decide) (by decide) he
theorem b_repr (hgd : X.A.guards = some []) (hu : X.A.units + 64 < cLine) (hg : Gl X "repr") (hm : X.mg "repr" = none) (ha : SP X a f1) (he : starEach [a] X.env = (false, eval a X.env) :: starEach [] X.env := by rfl) : SE X (.Call (.Name "repr" p) [a] [] pos) (fCl reprD (aCons f1 aNil)) := se_clB (call_repr hgd hu) ok_repr hg hm bt_repr (sps_cons ha sps_nil he) (by decide) (by decide) he
theorem b_int (hg : Gl X "int") (hm : X.mg "int" = none) (ha : SP X a f1) (he : starEach [a] X.env = (false, eval a X.env) :: starEach [] X.env := by rfl) : SE X (.Call (.Name "int" p) [a] [] pos) (fCl int1D (aCons f1 aNil)) := se_clT call_int1 ok_int1 hg hm bt_int (sps_cons ha sps_nil he) (by decide) (by decide) he
theorem b_tuple (hg : Gl X "tuple") (hm : X.mg "tuple" = none) (ha : SP X a f1) (he : starEach [a] X.env = (false, eval a X.env) :: starEach [] X.env := by rfl) : SE X (.Call (.Name "tuple" p) [a] [] pos) (fCl tupD (aCons f1 aNil)) := se_clT call_tuple_of ok_tup hg hm bt_tuple (sps_cons ha sps_nil he) (by decide) (by decide) he
theorem b_list (hg : Gl X "list") (hm : X.mg "list" = none) (ha : SP X a f1) (he : starEach [a] X.env = (false, eval a X.env) :: starEach [] X.env := by rfl) : SE X (.Call (.Name "list" p) [a] [] pos) (fCl lstD (aCons f1 aNil)) := se_clT call_list_of ok_lst hg hm bt_list (sps_cons ha sps_nil he) (by decide) (by decide) he

theorem sz_gj {i : Int} (hg : Gl X x) (hm : ∃ t, X.mg x = some (.int i t)) (hd : (x == ("__debug__" : Str)) = false := by decide) : SZ X (.Name x pos) (fC (.int i)) := hm.elim fun _ h => sz_gi hg h hd
/-! names by their slots -/
theorem nP (i : Nat) (hN : X.N[i]? = some x) (hv : Vis X.env.scope x) (hd : (x == ("__debug__" : Str)) = false := by decide) (hcd : (x == ("__classdict__" : Str)) = false := by decide) : SP X (.Name x pos) (fPk i) := sp_pk (pe_var hN hv hd hcd)
theorem nZ (i : Nat) (hN : X.N[i]? = some x) (hv : Vis X.env.scope x) (hd : (x == ("__debug__" : Str)) = false := by decide) (hcd : (x == ("__classdict__" : Str)) = false := by decide) : SZ X (.Name x pos) (fVar i) := sz_var (pe_var hN hv hd hcd)
theorem nM (i : Nat) (hN : X.N[i]? = some x) (hv : Vis X.env.scope x) (hd : (x == ("__debug__" : Str)) = false := by decide) (hcd : (x == ("__classdict__" : Str)) = false := by decide) : SE X (.Name x pos) (fMv i) := se_mv (pe_var hN hv hd hcd)
end
/-! defs of the text -/
section
variable {P : Program} {w : World} {K : PySem.W.Frag} {mg : Str → Option Value} {base : Heap}
def Df (K : PySem.W.Frag) (mg : Str → Option Value) (x : Str) (sd : Stmt) : Prop := ∃ f fd, Fun K x x sd f fd ∧ mg x = some (.ref f)
def Cal (P : Program) (w : World) (K : PySem.W.Frag) (mg : Str → Option Value) (base : Heap) (x : Str) (sd : Stmt) (k : Nat) (ps : List Str) (m : FS) : Prop :=
  ∃ f fd, Fun K x x sd f fd ∧ mg x = some (.ref f) ∧ Binds K fd ps [] ∧ FnG P w K mg base k f fd ps (spM K m)
theorem Cal.up {x : Str} {sd : Stmt} {j k : Nat} {ps : List Str} {m : FS} (c : Cal P w K mg base x sd j ps m) (h : j ≤ k) : Cal P w K mg base x sd k ps m := by
  obtain ⟨f, fd, F, e, b, G⟩ := c
  exact ⟨f, fd, F, e, b, G.up h⟩
def BindP (x : Str) (sd : Stmt) (ps : List Str) : Prop := ∀ (kV doc pm : Value) (an : Option Addr) (cdv ct : Value) (us : List Value), us.length = ps.length → bindArgs (PySem.W.fnOf x x (defArgs sd) (defBody sd) (defScope sd) .none kV doc pm an cdv ct) ⟨us, []⟩ = pure (ps.zip us)
def BindK (x : Str) (sd : Stmt) (ps ks : List Str) (n : Nat) (is : List Nat) : Prop := ∀ (kV doc pm : Value) (an : Option Addr) (cdv ct : Value) (us ws : List Value), us.length = n → ws.length = ks.length → bindArgs (PySem.W.fnOf x x (defArgs sd) (defBody sd) (defScope sd) .none kV doc pm an cdv ct) ⟨us, ks.zip ws⟩ = pure (ps.zip (pmOf is us ws))
theorem cal_mk {x : Str} {sd : Stmt} {N ps : List Str} {k : Nat} {body : SS} (D : Df K mg x sd) (S : FnScope N ps (defScope sd)) (hb : BindP x sd ps) (hpn : ps.length ≤ N.length)
    (hbody : ∀ (f : Addr) (cdv : Value) (A : Around) (outer : List PySem.Env) (s : Shared) (H : Hp) (E : XK), A.guards = some [] → Room k (A.deeper (envOfC x (defScope sd) s.heap.objs.size f cdv)) → SSs (cxOf CX0 P w K mg base N x (defScope sd) f cdv A outer s H E).nox (defBody sd) body) :
    Cal P w K mg base x sd (k + 1) ps (mkFn N.length ps.length body) := by
  obtain ⟨f, fd, F, e⟩ := D
  exact ⟨f, fd, F, e, F.binds hb, fn_mk F S hpn (hbody f)⟩
/-- no promise -/
theorem cal_none {x : Str} {sd : Stmt} {ps : List Str} {k : Nat} (D : Df K mg x sd) (hb : BindP x sd ps) : Cal P w K mg base x sd k ps (fun _ _ => none) := by
  obtain ⟨f, fd, F, e⟩ := D
  refine ⟨f, fd, F, e, F.binds hb, fun vs H Q E h => ?_, fun A outer s H args us vs Q E _ _ _ _ _ h => ?_⟩
  · obtain ⟨C, M, st, ds, r, st', _, _, e, _⟩ := h
    cases e
  · obtain ⟨C, M, st, ds, r, st', _, _, e, _⟩ := h
    cases e
end
section
variable {X : Cx} {k j : Nat} {ps ks : List Str} {x : Str} {sd : Stmt} {p pos : Pos} {e : Expr} {es : List Expr} {kws : List Keyword} {m : FS} {fs fk : AS}
theorem cl (c : Cal X.prog X.w X.K X.mg X.base x sd j ps m) (hr : Room k X.A) (hj : j ≤ k) (hgd : X.A.guards = some []) (hg : Gl X x) (ha : SZs X (e :: es) fs)
    (hdb : (x == ("__debug__" : Str)) = false := by decide) (he : starEach (e :: es) X.env = (false, eval e X.env) :: starEach es X.env := by rfl) (hpl : (backTo pos (starEach es X.env)).any (·.1) = false := by rfl) :
    SE X (.Call (.Name x p) (e :: es) [] pos) (fCall m fs) := by
  obtain ⟨f, fd, F, em, b, G⟩ := c
  exact se_call G (hr.mono hj) hgd hg em F.kp b ha hdb he hpl
theorem kb_of {K : PySem.W.Frag} {f : Addr} {fd : FuncData} {n : Nat} {is : List Nat} (F : Fun K x x sd f fd) (h : BindK x sd ps ks n is) : KB K fd ps ks n (fun us ws => pmOf is us ws) := by
  obtain ⟨oc, od, kV, doc, pm, an, cdv, ct, osl, rfl, lk, hcd⟩ := F.ex
  exact kb_mk fun s us ws h1 h2 => .of_eq (h kV doc pm an cdv ct us ws h1 h2)
theorem clk {n nk : Nat} {is : List Nat} (c : Cal X.prog X.w X.K X.mg X.base x sd j ps m) (kb : BindK x sd ps ks n is) (hr : Room k X.A) (hj : j ≤ k) (hgd : X.A.guards = some []) (hg : Gl X x) (hn : ks.length = nk) (ha : SZs X (e :: es) fs) (hkw : SK X kws fk)
    (hall : (backToKw pos (keywordEach kws X.env)).all (·.1.isSome) = true := by rfl) (hks : (backToKw pos (keywordEach kws X.env)).filterMap (·.1) = ks := by rfl)
    (hdb : (x == ("__debug__" : Str)) = false := by decide) (he : starEach (e :: es) X.env = (false, eval e X.env) :: starEach es X.env := by rfl)
    (hpl : ((backTo pos (starEach (e :: es) X.env)).any (·.1) || (backToKw pos (keywordEach kws X.env)).any (·.1.isNone)) = false := by rfl) :
    SE X (.Call (.Name x p) (e :: es) kws pos) (fCallK m is n nk fs fk) := by
  obtain ⟨f, fd, F, em, b, G⟩ := c
  exact se_callK G (hr.mono hj) hgd hg em F.kp (kb_of F kb) hn ha hkw hall hks hdb he hpl
theorem clk0 {nk : Nat} {is : List Nat} (c : Cal X.prog X.w X.K X.mg X.base x sd j ps m) (kb : BindK x sd ps ks 0 is) (hr : Room k X.A) (hj : j ≤ k) (hgd : X.A.guards = some []) (hg : Gl X x) (hn : ks.length = nk) (hkw : SK X kws fk)
    (hall : (backToKw pos (keywordEach kws X.env)).all (·.1.isSome) = true := by rfl) (hks : (backToKw pos (keywordEach kws X.env)).filterMap (·.1) = ks := by rfl)
    (hdb : (x == ("__debug__" : Str)) = false := by decide)
    (hpl : ((backTo pos (starEach [] X.env)).any (·.1) || (backToKw pos (keywordEach kws X.env)).any (·.1.isNone)) = false := by rfl) :
    SE X (.Call (.Name x p) [] kws pos) (fCallK0 m is nk fk) := by
  obtain ⟨f, fd, F, em, b, G⟩ := c
  exact se_callK0 G (hr.mono hj) hgd hg em F.kp (kb_of F kb) hn hkw hall hks hdb hpl
end
/-- turns a while loop may take -/
def WH : Nat := 100000
section
variable {P : Program} {w : World} {K : PySem.W.Frag} {mg : Str → Option Value} {h : Heap} {x : Str} {sd : Stmt} {f fa : Addr} {k : Nat} {m : FS} {y : Str}
theorem df_mk {oc : Value} {od an : Option Addr} {osl : Array (Option Value)} {kV doc pm cdv ct : Value} (KX : K.In h) (G : h.Ns mainGlobals mg) (a : PySem.W.nsIn K mainGlobals x = some (some (.ref f))) (l : K.lookup f = some ⟨oc, od, .func (PySem.W.fnOf x x (defArgs sd) (defBody sd) (defScope sd) .none kV doc pm an cdv ct), osl⟩)
    (c : PySem.W.codeIn K cdv x = true) (kp : PySem.W.keepIn K (.ref f) = true) : Df K mg x sd := ⟨f, _, fun_mk l c kp, PySem.W.mg_of KX G a⟩
theorem gi_mk {v : Value} {i : Int} (KX : K.In h) (G : h.Ns mainGlobals mg) (a : PySem.W.nsIn K mainGlobals x = some (some v)) (e : ∃ t, v = .int i t) : ∃ t, mg x = some (.int i t) := by
  obtain ⟨t, rfl⟩ := e
  exact ⟨t, PySem.W.mg_of KX G a⟩
theorem law_end (hfa : mg x = some (.ref fa)) (D : Df K mg x sd) (hb : BindP x sd [y]) (C : ∀ base : Heap, K.In base → base.Ns mainGlobals mg → Cal P w K mg base x sd k [y] m) :
    ∃ fd : FuncData, (∀ (s : Shared) (u : Value), BindsTo s fd ⟨[u], []⟩ [(y, u)]) ∧ ∀ base : Heap, K.In base → base.Ns mainGlobals mg → FnG P w K mg base k fa fd [y] (spM K m) := by
  obtain ⟨f, fd, F, e⟩ := D
  have ef : f = fa := by
    rw [hfa] at e
    cases e
    rfl
  subst ef
  refine ⟨fd, fun s u => ?_, fun base hK hN => ?_⟩
  · obtain ⟨oc, od, kV, doc, pm, an, cdv, ct, osl, rfl, lk, hcd⟩ := F.ex
    exact .of_eq (hb kV doc pm an cdv ct [u] rfl)
  · obtain ⟨f2, fd2, F2, e2, _, G⟩ := C base hK hN
    have ef : f2 = f := by
      rw [e] at e2
      cases e2
      rfl
    subst ef
    have efd : fd2 = fd := by
      obtain ⟨oc, od, kV, doc, pm, an, cdv, ct, osl, r1, lk, hcd⟩ := F.ex
      obtain ⟨oc2, od2, kV2, doc2, pm2, an2, cdv2, ct2, osl2, r2, lk2, hcd2⟩ := F2.ex
      rw [lk] at lk2
      cases lk2
      rfl
    exact efd ▸ G
end
end Pv

/-! # PvP -/
set_option Elab.async false
set_option linter.all false
set_option maxHeartbeats 1000000
/-! divmod; cell[k], x = a pair -/
namespace Pv
open PySem PySem.Spec PyProof.Rows L2
section
variable {X : Cx} {K : PySem.W.Frag} {C O C1 O1 C2 O2 : List Addr} {M M1 M2 : Addr → Prop} {H H1 H2 : Hp} {st st1 st2 : Ms} {v y : V} {d a : D} {o os : List Addr} {Q : VK} {vs : List V} {σ : L2.St} {env env1 env2 : Env} {fe : ES} {tpos : Pos}
def dmD (_ : Ms) (ds : List D) : Option D := match ds with
  | [.int i, .int j] => if 0 < j ∧ j < 1073741824 then some (.tup [.int (i / j), .int (i % j)]) else none
  | _ => none
theorem ok_dm : ClOk K (fun xs H Q => ∃ i j, xs = [.int i, .int j] ∧ CDiv i j ∧ ∀ p, H p = none → Q (.ref p) (upd H p (.tup [.int (i / j), .int (i % j)]))) dmD := by
  intro C M H st vs ds os res Q ci rv e q
  unfold dmD at e
  split at e
  · rename_i i j
    split at e
    · rename_i hc
      cases e
      obtain ⟨u, w, o1, o2, rfl, r1, r2⟩ := rvs_two rv
      cases r1
      cases r2
      exact ⟨i, j, rfl, hc, fun p hp => ans_tup ci (.cons0 (.int _) (.cons0 (.int _) .nil)) q hp⟩
    · cases e
  · cases e
def sDm (i jx : Nat) (fk f : ES) : SS := fun env st => (f env st).bind fun x => match x.1 with
  | .tup [a, b] => match x.2.1[i]? with
    | some (some (.cell c)) => (fk x.2.1 x.2.2).bind fun y => match y.1, y.2.2[c]? with
      | .int k, some ds => (ixN ds.length k).bind fun j => if a.nc = true ∧ a.of = true ∧ b.of = true ∧ jx < y.2.1.length then some (.nx (y.2.1.set jx (some b)) (y.2.2.set c (ds.set j a))) else none
      | _, _ => none
    | _ => none
  | _ => none
theorem ts_dm {i jx : Nat} {fk : ES} {N : Ends} (h : tS K (sDm i jx fk fe) N σ H) : tAsg (tE K fe) (gTup K 2 (gCons (gSub (tVar i) (tP K fk) rSetL) (gCons (gName jx) gNil))) N σ H := by
  obtain ⟨C, O, M, env, st, r, fi, e, q⟩ := h
  unfold sDm at e
  rw [Option.bind_eq_some_iff] at e
  obtain ⟨⟨t, env1, st1⟩, e1, e⟩ := e
  dsimp only at e
  split at e
  · rename_i a b
    split at e
    · rename_i c e3
      rw [Option.bind_eq_some_iff] at e
      obtain ⟨⟨kd, env2, st2⟩, e2, e⟩ := e
      dsimp only at e
      split at e
      · rename_i k ds e4
        rw [Option.bind_eq_some_iff] at e
        obtain ⟨j, e5, e⟩ := e
        split at e
        · rename_i hc4
          obtain ⟨hnc, hof, hbo, hjx⟩ := hc4
          cases e
          refine ⟨C, O, M, env, st, .tup [a, b], env1, st1, fi, e1, fun v H1 C1 O1 M1 os g1 fi1 r1 nd n1 => ?_⟩
          have hos : os = [] := r1.of (by simp [D.of, D.ofs, hof, hbo])
          subst hos
          cases r1 with
          | @tup tp xs _ _ ht rx =>
            obtain ⟨u, w, o1, o2, rfl, ra, rb⟩ := rvs_two rx
            have z1 := ra.of hof
            have z2 := rb.of hbo
            subst z1 z2
            obtain ⟨v0, o, s1, r0, _⟩ := fi1.sl.get e3
            cases r0 with
            | @cell p _ hc =>
              refine ⟨tp, [u, w], rfl, tr_keep .refl fi1.ci.mC fi1.mO ht, rfl, u, [w], rfl, .ref p, s1, ?_⟩
              refine ⟨C1, O1, M1, env1, st1, .int k, env2, st2, fi1, e2, fun z H2 C2 O2 M2 os2 g2 fi2 r2 n2 => ?_⟩
              cases r2
              have hc2 : C2[c]? = some p := g2.cat c p hc
              obtain ⟨ys, hp, rs⟩ := fi2.ci.at_ c ds p e4 hc2
              have hm : M2 p := fi2.ci.mC p (List.mem_of_getElem? hc2)
              have k1 : ∀ b o, ¬ M2 b → H2 b = some o → upd H2 p (.lst (ys.set j u)) b = some o := fun b o h e => by rw [upd_ne (fun z => h (by rw [z]; exact hm))]; exact e
              have ra2 := g2.rv fi1.ci.mC ra fun a ha => nomatch ha
              have rb2 := g2.rv fi1.ci.mC rb fun a ha => nomatch ha
              have ry : RV K [] M2 H2 u a [] := ra2.free hnc
              have rr : RVs K [] M2 (upd H2 p (.lst (ys.set j u))) (ys.set j u) (ds.set j a) [] :=
                (rs.set0 ry j rfl).mono (fun _ _ e => e) k1 (fun _ _ h _ => h) fun _ z => nomatch z
              have rb3 : RV K C2 M2 (upd H2 p (.lst (ys.set j u))) w b [] := rb2.mono (fun _ _ e => e) k1 (fun _ _ h _ => h) fun _ z => nomatch z
              refine ⟨p, ys, k, j, rfl, rfl, hp, by rw [rs.len]; exact e5, ?_⟩
              have pO : p ∉ O2 := fun z => fi2.oc p z (List.mem_of_getElem? hc2)
              have g12 := g1.trans fi.ci.tr g2
              have fi3 : FI K C2 O2 M2 (upd H2 p (.lst (ys.set j u))) σ env2 (st2.set c (ds.set j a)) := ⟨fi2.ci.set e4 hc2 rr, fi2.sl.mono (fun _ _ e => e) k1 (fun _ _ h _ => h) fun x hx o e => by rw [upd_ne fun z => pO (by rw [← z]; exact hx)]; exact e, fi2.od, fi2.oc, fi2.mO⟩
              obtain ⟨O3, fi4, m3⟩ := fi3.set hjx rb3 .nil fun a ha => nomatch ha
              refine ⟨w, [], rfl, ?_⟩
              refine ⟨rfl, q (σ.set jx (some w)) _ C2 O3 M2 ⟨fun x o h1 _ h3 => ?_, g12.pre, g12.weak.newc, g12.fresh, g12.forn, fun a ha => ?_, fun x hx => ?_⟩ fi4⟩
              · rw [upd_ne fun z => ?_]
                · exact g12.keep x o h1 (fun z => z.elim) h3
                · subst z
                  rcases g12.newc0 _ (List.mem_of_getElem? hc2) with w | w
                  · exact h1 w
                  · rw [h3] at w; cases w
              · rcases m3 a ha with z | z
                · exact g12.ownd a z
                · cases z
              · by_cases z : x = p
                · subst z
                  rw [upd_same] at hx; cases hx
                · rw [upd_ne z] at hx
                  exact g12.back x hx
        · cases e
      · cases e
    · cases e
  · cases e
theorem s1_dm {i jx : Nat} {x y : Str} {p1 p2 p3 pos : Pos} {kk : Nat} {k ex : Expr} {fk : ES} (he : SE X ex fe) (hr : PE X (.Name x p1) (tVar i)) (hk : SP X k fk) (hc : X.calm = true) (hg : PG X (.Name y p3) (gName jx))
    (ha : ∀ v, assign (.Subscript (.Name x p1) k p2) X.env v = (do
      let ov ← holding [v] (eval (.Name x p1) X.env)
      let iv ← holding [v, ov] (eval k X.env)
      standAt p2
      holding [v, ov, iv] (setItem ov iv v)
      release [v, ov, iv] []) := by intro _; rfl)
    (hl : (assignEach [.Subscript (.Name x p1) k p2, .Name y p3] X.env).map (·.2) = assign (.Subscript (.Name x p1) k p2) X.env :: (assignEach [.Name y p3] X.env).map (·.2) := by rfl)
    (hl2 : (assignEach [.Name y p3] X.env).map (·.2) = assign (.Name y p3) X.env :: (assignEach [] X.env).map (·.2) := by rfl)
    (hn : (assignEach [.Subscript (.Name x p1) k p2, .Name y p3] X.env).length = 2 := by rfl) (hst : (assignEach [.Subscript (.Name x p1) k p2, .Name y p3] X.env).findIdx? (·.1) = none := by rfl)
    (hs : swapsWithSole [.Tuple [.Subscript (.Name x p1) k p2, .Name y p3] kk tpos] ex pos.line X.env = pure false := by rfl) (hw : swappedStores [.Tuple [.Subscript (.Name x p1) k p2, .Name y p3] kk tpos] ex X.env = pure none := by rfl)
    (h1 : (assignEach [.Tuple [.Subscript (.Name x p1) k p2, .Name y p3] kk tpos] X.env).map (·.2) = [assign (.Tuple [.Subscript (.Name x p1) k p2, .Name y p3] kk tpos) X.env] := by rfl) :
    SS1 X (.Assign [.Tuple [.Subscript (.Name x p1) k p2, .Name y p3] kk tpos] ex pos) (sDm i jx fk fe) :=
  ps_weak (ps_asg he (pg_tup hc (pgs_cons (pg_sub hr hk set_list ha) (pgs_cons hg pgs_nil hl2) hl) hn hst) hs hw h1) fun _ _ _ h => ts_dm h
theorem bt_divmod : bootBuiltins "divmod" = some (.builtin "divmod") := by decide +kernel
theorem b_divmod {a b : Expr} {f1 f2 : ES} {p pos : Pos} (hg : Gl X "divmod") (hm : X.mg "divmod" = none) (ha : SP X a f1) (hb : SP X b f2) (he : starEach [a, b] X.env = (false, eval a X.env) :: starEach [b] X.env := by rfl) (he2 : starEach [b] X.env = (false, eval b X.env) :: starEach [] X.env := by rfl) (hpl : (backTo pos (starEach [b] X.env)).any (·.1) = false := by rfl) :
    SE X (.Call (.Name "divmod" p) [a, b] [] pos) (fCl dmD (aCons f1 (aCons f2 aNil))) := se_clB call_divmod ok_dm hg hm bt_divmod (sps_cons ha (sps_cons hb sps_nil he2) he) (by decide) (by decide) he hpl
end
end Pv

/-! # PvS -/
set_option Elab.async false
set_option linter.all false
set_option maxHeartbeats 1000000
/-! sorted, in, index -/
namespace Pv
open PySem PySem.Spec PyProof.Rows L2
section
variable {X : Cx} {K : PySem.W.Frag} {C O : List Addr} {M : Addr → Prop} {H : Hp} {st : Ms} {v v1 v2 : V} {d d1 d2 : D} {o o1 o2 os : List Addr} {Q : VK} {vs : List V} {σ : L2.St}
def rSrtD (K : PySem.W.Frag) : List V → Hp → VK → Prop := fun xs H Q => ∃ (p : Addr) (ps : List (V × PyData)), xs = [.ref p] ∧ SqL K H p (ps.map Prod.fst) ∧ DpAll K H (ps.map Prod.fst) (ps.map Prod.snd) ∧ PySem.W.AllAlike (ps.map Prod.snd) ∧ PySem.W.Sortable (ps.map Prod.snd) ∧ PyData.depthAll (ps.map Prod.snd) ≤ 60 ∧ ps.length ≤ sizeLine ∧
  ∀ l, H l = none → Q (.ref l) (upd H l (.lst ((ps.mergeSort (PySem.W.dataLe false Prod.snd)).map Prod.fst)))
theorem each_vals : ∀ {ps : List (V × PyData)} {its : List Value}, Vals (ps.map Prod.fst) its → PySem.W.EachIs (fun v b => RelV b.1 v) its ps
  | [], _, .nil => .nil
  | _ :: _, _, .cons r t => .cons r (each_vals t)
theorem vals_each : ∀ {ps : List (V × PyData)} {its : List Value}, PySem.W.EachIs (fun v b => RelV b.1 v) its ps → Vals (ps.map Prod.fst) its
  | [], _, .nil => .nil
  | _ :: _, _, .cons r t => .cons r (vals_each t)
theorem each_reads {h : Heap} : ∀ {ps : List (V × PyData)} {its : List Value} {as : List Addr}, ReadsAll h its (ps.map Prod.snd) as → PySem.W.EachIs (fun v b => ∃ as, Reads h v b.2 as) its ps
  | [], [], _, _ => .nil
  | [], u :: us, _, r => absurd (SeqAt.ReadsAll.length _ _ _ r) (by simp)
  | p :: ps, its, as, r => by
    obtain ⟨v, vs', as1, as2, rfl, _, r1, r2⟩ := readsAll_cons_inv r
    exact .cons ⟨as1, r1⟩ (each_reads r2)
theorem call_sortedD (hu : X.A.units + 64 < cLine) : CallR X (.builtin "sorted") (rSrtD X.K) := by
  intro pins s σ H xs us Q I r h
  obtain ⟨p, ps, rfl, sq, dp, al, so, hd, hz0, q⟩ := h
  obtain ⟨u, rfl, rv⟩ := Vals.one r
  cases rv
  obtain ⟨its, rvs, pl, hz⟩ := I.list sq
  obtain ⟨as, rd⟩ := Dp.readsAll I (ps.map Prod.snd) (ps.map Prod.fst) its dp rvs
  have hdep : ∀ b ∈ ps, X.A.units + 2 + b.2.depth < cLine := fun b hb => by
    have : b.2.depth ≤ PyData.depthAll (ps.map Prod.snd) := by
      clear hd q al so dp rd hz hz0 sq rvs
      induction ps with
      | nil => cases hb
      | cons c ps ih =>
        simp only [List.map_cons, PyData.depthAll]
        rcases List.mem_cons.mp hb with rfl | hb
        · exact Nat.le_max_left _ _
        · exact Nat.le_trans (ih hb) (Nat.le_max_right _ _)
    omega
  refine PySem.W.sorted_data (vs := its) (bs := ps) (enc := Prod.snd) (R := fun v b => RelV b.1 v) pl.isList (each_vals rvs) (each_reads rd) al so hz0 hdep fun out h1 h2 => ?_
  obtain ⟨ep, he'⟩ := PyProof.Rows.sortedAll_at s.heap its out.toArray
  have hlen : ((ps.mergeSort (PySem.W.dataLe false Prod.snd)).map Prod.fst).length ≤ sizeLine := by rw [List.length_map, List.length_mergeSort]; exact hz0
  exact ⟨.ref _, upd H (s.heap.objs.size + 1) (.lst ((ps.mergeSort (PySem.W.dataLe false Prod.snd)).map Prod.fst)), I.laid (t' := s.toks) (fun _ _ => PyProof.Rows.sortedAll_old) (Nat.le_succ _) ⟨hlen, out, ep, vals_each h2, he'⟩, rfl, q _ (I.hok.fresh (Nat.le_succ _))⟩
/-- a before b, or like it -/
def leD2 (a b : D) : Bool := !PySem.W.dataLt b.py a.py
def srtB (xs : List PyData) : Bool := (xs.all fun x => match x with | .tuple (_ :: _) => true | _ => false) || xs.all fun x => match x with | .none => false | .tuple _ => false | _ => true
theorem srtB_ok {xs : List PyData} (h : srtB xs = true) : PySem.W.Sortable xs := by
  unfold srtB at h
  rw [Bool.or_eq_true, List.all_eq_true, List.all_eq_true] at h
  rcases h with h | h
  · refine .inl fun d hd => ?_
    have := h d hd
    split at this
    · exact ⟨_, _, rfl⟩
    · cases this
  · refine .inr fun d hd => ⟨fun e => ?_, fun xs e => ?_⟩
    · subst e; have := h _ hd; cases this
    · subst e; have := h _ hd; cases this
def srtD (_ : Ms) (ds : List D) : Option D := match ds with
  | [d] => d.li2.bind fun l => if D.ncs l = true ∧ (D.pys l).all (fun x => (D.pys l).all fun y => PySem.W.alike x y) = true ∧ srtB (D.pys l) = true ∧ PyData.depthAll (D.pys l) ≤ 60 ∧ l.length ≤ BIG then some (.own (l.mergeSort leD2)) else none
  | _ => none
theorem rvs_zip (K : PySem.W.Frag) (C : List Addr) (M : Addr → Prop) (H : Hp) : ∀ {zs : List (V × D)}, (∀ z ∈ zs, RV K C M H z.1 z.2 []) → RVs K C M H (zs.map Prod.fst) (zs.map Prod.snd) []
  | [], _ => .nil
  | z :: zs, h => .cons0 (h z List.mem_cons_self) (rvs_zip K C M H fun y hy => h y (List.mem_cons_of_mem _ hy))
theorem rvs_zipped : ∀ {xs : List V} {l : List D} {os : List Addr}, RVs K C M H xs l os → os = [] → ∀ z ∈ xs.zip l, RV K C M H z.1 z.2 []
  | _, _, _, .nil, _, z, h => nomatch h
  | _, _, _, .cons r rs, e, z, h => by
    obtain ⟨e1, e2⟩ := List.append_eq_nil_iff.mp e
    subst e1 e2
    rw [List.zip_cons_cons] at h
    rcases List.mem_cons.mp h with rfl | h
    · exact r
    · exact rvs_zipped rs rfl z h
theorem pys_eq0 : ∀ l : List D, D.pys l = l.map D.py
  | [] => by simp [D.pys]
  | d :: l => by simp [D.pys, pys_eq0 l]
theorem ok_srt : ClOk K (rSrtD K) srtD := by
  intro C M H st vs ds os res Q ci r e q
  unfold srtD at e
  split at e
  · rw [Option.bind_eq_some_iff] at e
    obtain ⟨l, e1, e⟩ := e
    split at e
    · rename_i hc
      obtain ⟨h1, h2, h3, h4, h5⟩ := hc
      cases e
      obtain ⟨v, rfl, r9⟩ := rvs_one r
      obtain ⟨p, items, rfl, hs, r1⟩ := li2_ok e1 r9
      have hl := r1.len
      have ef : (items.zip (D.pys l)).map Prod.fst = items := List.map_fst_zip (by rw [hl, pys_len]; exact Nat.le_refl _)
      have es : (items.zip (D.pys l)).map Prod.snd = D.pys l := List.map_snd_zip (by rw [hl, pys_len]; exact Nat.le_refl _)
      have dp : DpAll K H items (D.pys l) := r1.dp h1
      have hal : PySem.W.AllAlike (D.pys l) := fun x hx y hy => (List.all_eq_true.mp ((List.all_eq_true.mp h2) x hx)) y hy
      refine ⟨p, items.zip (D.pys l), rfl, by rw [ef]; exact hs, by rw [ef, es]; exact dp, by rw [es]; exact hal, by rw [es]; exact srtB_ok h3, by rw [es]; exact h4, by rw [List.length_zip, hl, pys_len, Nat.min_self]; exact big_size h5, fun a ha => ?_⟩
      have ezip : items.zip (D.pys l) = (items.zip l).map fun z => (z.1, z.2.py) := by
        rw [pys_eq0, List.zip_map_right]
        rfl
      have esort : (items.zip (D.pys l)).mergeSort (PySem.W.dataLe false Prod.snd) = ((items.zip l).mergeSort (fun (a b : V × D) => leD2 a.2 b.2)).map fun z => (z.1, z.2.py) := by
        rw [ezip]
        exact (List.map_mergeSort (f := fun z : V × D => (z.1, z.2.py)) (r := fun (a b : V × D) => leD2 a.2 b.2) (s := PySem.W.dataLe false Prod.snd) fun a _ b _ => rfl).symm
      have esort2 : ((items.zip l).mergeSort (fun (a b : V × D) => leD2 a.2 b.2)).map Prod.snd = l.mergeSort leD2 := by
        have := (List.map_mergeSort (f := fun z : V × D => z.2) (r := fun (a b : V × D) => leD2 a.2 b.2) (s := leD2) (l := items.zip l) fun a _ b _ => rfl)
        rw [this]
        congr 1
        exact List.map_snd_zip (by rw [hl]; exact Nat.le_refl _)
      rw [esort, List.map_map]
      have rr : RVs K C M H (((items.zip l).mergeSort (fun (a b : V × D) => leD2 a.2 b.2)).map Prod.fst) (l.mergeSort leD2) [] := by
        rw [← esort2]
        refine rvs_zip K C M H fun z hz => ?_
        exact rvs_zipped r1 rfl z (List.mem_mergeSort.mp hz)
      exact ans_new ci rr q ha
    · cases e
  · cases e
theorem bt_sorted : bootBuiltins "sorted" = some (.builtin "sorted") := by decide +kernel
theorem b_sorted {a : Expr} {f1 : ES} {p pos : Pos} (hu : X.A.units + 64 < cLine) (hg : Gl X "sorted") (hm : X.mg "sorted" = none) (ha : SP X a f1) (he : starEach [a] X.env = (false, eval a X.env) :: starEach [] X.env := by rfl) : SE X (.Call (.Name "sorted" p) [a] [] pos) (fCl srtD (aCons f1 aNil)) :=
  se_clB (call_sortedD hu) ok_srt hg hm bt_sorted (sps_cons ha sps_nil he) (by decide) (by decide) he
/-! in, not in: data of any depth, in a list or a tuple -/
def rInDT (K : PySem.W.Frag) (neg : Bool) : R2 := fun x y H Q => ∃ d ds, Dp K H x d ∧ (Dp K H y (.list ds) ∨ Dp K H y (.tuple ds)) ∧ SeqAt.shaped d = true ∧ SeqAt.shaped (.list ds) = true ∧ Q (.bl (neg != ds.any fun z => PyData.eqv z d)) H
theorem shaped_tl {ds : List PyData} (h : SeqAt.shaped (.list ds) = true) : SeqAt.shaped (.tuple ds) = true := by
  simpa [SeqAt.shaped, PyData.canLay0, PyData.depth] using h
theorem op_inDT (hu : X.A.units + 65 < cLine) : OpR X (compareOp .In) (rInDT X.K false) := by
  intro pins s σ H x y v u Q I rx ry h
  obtain ⟨d, ds, hd, he, sd, se, q⟩ := h
  obtain ⟨as, r1⟩ := Dp.reads I d x v hd rx
  rcases he with he | he
  · obtain ⟨bs, r2⟩ := Dp.reads I (.list ds) y u he ry
    exact SeqAt.in_list_reads r2 r1 (SeqAt.canLay_of_shaped se) (SeqAt.canLay_of_shaped sd) (room_in_shaped sd hu) ⟨.bl _, H, I, rfl, by simpa using q⟩
  · obtain ⟨bs, r2⟩ := Dp.reads I (.tuple ds) y u he ry
    exact SeqAt.in_tuple_reads r2 r1 (SeqAt.canLay_of_shaped se) (SeqAt.canLay_of_shaped sd) (room_in_shaped sd hu) ⟨.bl _, H, I, rfl, by simpa using q⟩
theorem op_notInDT (hu : X.A.units + 65 < cLine) : OpR X (compareOp .NotIn) (rInDT X.K true) := by
  intro pins s σ H x y v u Q I rx ry h
  obtain ⟨d, ds, hd, he, sd, se, q⟩ := h
  obtain ⟨as, r1⟩ := Dp.reads I d x v hd rx
  rcases he with he | he
  · obtain ⟨bs, r2⟩ := Dp.reads I (.list ds) y u he ry
    exact SeqAt.notIn_list_reads r2 r1 (SeqAt.canLay_of_shaped se) (SeqAt.canLay_of_shaped sd) (room_in_shaped sd hu) ⟨.bl _, H, I, rfl, by simpa using q⟩
  · obtain ⟨bs, r2⟩ := Dp.reads I (.tuple ds) y u he ry
    exact SeqAt.notIn_tuple_reads r2 r1 (SeqAt.canLay_of_shaped se) (SeqAt.canLay_of_shaped sd) (room_in_shaped sd hu) ⟨.bl _, H, I, rfl, by simpa using q⟩
def D.its : D → Option (List D)
  | .tup l => some l | .lst l => some l | .own l => some l
  | _ => none
def memD (neg : Bool) (_ : Ms) (a b : D) : Option D := b.its.bind fun l => if a.nc = true ∧ D.ncs l = true ∧ SeqAt.shaped a.py = true ∧ SeqAt.shaped (.list (D.pys l)) = true then some (.bl (neg != (D.pys l).any fun z => PyData.eqv z a.py)) else none
abbrev inD := memD false
abbrev ninD := memD true
theorem ok_mem {neg : Bool} : OpOk K (rInDT K neg) (memD neg) := by
  intro C M H st v1 d1 o1 v2 d2 o2 res Q ci r1 r2 e q
  unfold memD at e
  rw [Option.bind_eq_some_iff] at e
  obtain ⟨l, e1, e⟩ := e
  split at e
  · rename_i hc
    obtain ⟨h1, h2, h3, h4⟩ := hc
    cases e
    refine ⟨d1.py, D.pys l, r1.dp h1, ?_, h3, h4, q.val ci (.bl _)⟩
    cases d2 <;> first | (cases e1; done) | skip
    · cases e1
      exact .inr (by simpa only [D.py] using r2.dp (d := .tup l) (by simpa only [D.nc] using h2))
    · cases e1
      exact .inl (by simpa only [D.py] using r2.dp (d := .lst l) (by simpa only [D.nc] using h2))
    · cases e1
      exact .inl (by simpa only [D.py] using r2.dp (d := .own l) (by simpa only [D.nc] using h2))
  · cases e
theorem or_in (hu : X.A.units + 65 < cLine) : OpR X (compareOp .In) (rInDT X.K false) := op_inDT hu
end
end Pv

/-! # PvT -/
set_option Elab.async false
set_option linter.all false
set_option maxHeartbeats 1000000
/-! x[k] = e and x[k].append(e), x an own list -/
namespace Pv
open PySem PySem.Spec PyProof.Rows L2
section
variable {X : Cx} {K : PySem.W.Frag} {C O C1 O1 C2 O2 : List Addr} {M M1 M2 : Addr → Prop} {H H1 H2 : Hp} {st st1 st2 : Ms} {a : D} {Q : VK} {σ : L2.St} {env env1 env2 : Env} {fe fk : ES} {N : Ends}
/-- an item put in: what it had is let go -/
theorem RVs.put {v : V} {d : D} {o : List Addr} (r : RV K C M H v d o) : ∀ (n : Nat) {vs : List V} {ds : List D} {os : List Addr}, RVs K C M H vs ds os → n < ds.length → ∃ o1 o0 o2, os = o1 ++ (o0 ++ o2) ∧ RVs K C M H (vs.set n v) (ds.set n d) (o1 ++ (o ++ o2)) ∧ ∃ w e, vs[n]? = some w ∧ ds[n]? = some e ∧ RV K C M H w e o0
  | 0, _, _, _, .nil, hn => absurd hn (by simp)
  | n + 1, _, _, _, .nil, hn => absurd hn (by simp)
  | 0, _, _, _, @RVs.cons _ _ _ _ w _ e _ a b h t, hn => ⟨[], a, b, rfl, RVs.cons (o1 := o) (o2 := b) r t, w, e, rfl, rfl, h⟩
  | n + 1, _, _, _, @RVs.cons _ _ _ _ w0 _ e0 _ a b h t, hn => by
    obtain ⟨o1, o0, o2, e1, t2, w, e, e2, e3, r3⟩ := RVs.put r n t (by simpa using hn)
    subst e1
    refine ⟨a ++ o1, o0, o2, by rw [List.append_assoc], ?_, w, e, by simpa using e2, by simpa using e3, r3⟩
    rw [List.append_assoc]
    exact .cons h t2
def sSetO (i : Nat) (fk : ES) (f : ES) : SS := fun env st => (f env st).bind fun x => match x.2.1[i]? with
  | some (some (.own _)) => (fk x.2.1 x.2.2).bind fun y => match y.1, y.2.1[i]? with
    | .int k, some (some (.own ds)) => (ixN ds.length k).bind fun j => some (.nx (y.2.1.set i (some (.own (ds.set j x.1)))) y.2.2)
    | _, _ => none
  | _ => none
theorem ts_seto {i : Nat} (h : tS K (sSetO i fk fe) N σ H) : tAsg (tZ K fe) (gSub (tVar i) (tP K fk) rSetL) N σ H := by
  obtain ⟨C, O, M, env, st, r, fi, e, q⟩ := h
  unfold sSetO at e
  rw [Option.bind_eq_some_iff] at e
  obtain ⟨⟨a, env1, st1⟩, e1, e⟩ := e
  dsimp only at e
  split at e
  · rename_i ds0 e0
    rw [Option.bind_eq_some_iff] at e
    obtain ⟨⟨kd, env2, st2⟩, e2, e⟩ := e
    dsimp only at e
    split at e
    · rename_i k ds e3
      rw [Option.bind_eq_some_iff] at e
      obtain ⟨j, e5, e⟩ := e
      cases e
      refine ⟨C, O, M, env, st, a, env1, st1, fi, e1, fun y H1 C1 O1 M1 g1 fi1 r1 => ?_⟩
      obtain ⟨v, o, s1, r0, _, _, _⟩ := fi1.wr e0
      cases r0 with
      | @own p xs0 _ o0 hp0 r0 =>
        refine ⟨.ref p, s1, C1, O1, M1, env1, st1, .int k, env2, st2, fi1, e2, fun z H2 C2 O2 M2 os2 g2 fi2 r2 n2 => ?_⟩
        cases r2
        obtain ⟨v2, o2, s2, r2, sub2, nd2, w⟩ := fi2.wr e3
        have ev : v2 = .ref p := by
          rw [s1] at s2
          exact (Option.some.inj (Option.some.inj s2)).symm
        subst ev
        cases r2 with
        | @own _ xs1 _ o1 hp1 r2 =>
          have mp : M2 p := fi2.mO p (sub2 p (List.mem_cons_self ..))
          obtain ⟨np, nd3⟩ := List.nodup_cons.mp nd2
          have ry := g2.rv fi1.ci.mC r1 fun a ha => nomatch ha
          obtain ⟨q1, q0, q2, eo, rp, _⟩ := RVs.put ry j r2 (ixN_seq e5).2.1
          have sub : ∀ x ∈ q1 ++ ([] ++ q2), x ∈ o1 := fun x hx => by
            rw [eo]
            rcases List.mem_append.mp hx with z | z
            · exact List.mem_append_left _ z
            · exact List.mem_append_right _ (List.mem_append_right _ (by simpa using z))
          have nd4 : (q1 ++ ([] ++ q2)).Nodup := by
            rw [eo] at nd3
            exact (Pv.nd3 nd3).1
          have k1 : ∀ a o, ¬ M2 a → H2 a = some o → upd H2 p (.lst (xs1.set j y)) a = some o := fun a o h e => by rw [upd_ne (fun z => h (by rw [z]; exact mp))]; exact e
          have ra : RVs K C2 M2 (upd H2 p (.lst (xs1.set j y))) (xs1.set j y) (ds.set j a) (q1 ++ ([] ++ q2)) :=
            rp.mono (fun _ _ e => e) k1 (fun _ _ h _ => h) fun x hx o e => by rw [upd_ne (fun z => np (by rw [← z]; exact sub x hx))]; exact e
          obtain ⟨O3, fi3, m3⟩ := w p (xs1.set j y) (.own (ds.set j a)) (p :: (q1 ++ ([] ++ q2))) (List.mem_cons_self ..) (fun x hx => by
            rcases List.mem_cons.mp hx with z | z
            · exact .inl (z ▸ List.mem_cons_self ..)
            · exact .inl (List.mem_cons_of_mem _ (sub x z))) (List.nodup_cons.mpr ⟨fun z => np (sub _ z), nd4⟩) (.own upd_same ra)
          refine ⟨p, xs1, k, j, rfl, rfl, hp1, by rw [r2.len]; exact e5, ?_⟩
          have g12 := g1.trans fi.ci.tr g2
          refine q σ _ C2 O3 M2 (g12.wr (sub2 p (List.mem_cons_self ..)) fun x hx => ?_) fi3
          rcases m3 x hx with z | z
          · exact g12.ownd x z
          · rcases List.mem_cons.mp z with z | z
            · exact g12.ownd x (z ▸ sub2 p (List.mem_cons_self ..))
            · exact g12.ownd x (sub2 x (List.mem_cons_of_mem _ (sub x z)))
    · cases e
  · cases e
theorem s1_seto {i : Nat} {x : Str} {p1 p2 pos : Pos} {k e : Expr} (he : SZ X e fe) (hr : PE X (.Name x p1) (tVar i)) (hk : SP X k fk) (ha : ∀ v, assign (.Subscript (.Name x p1) k p2) X.env v = (do
      let ov ← holding [v] (eval (.Name x p1) X.env)
      let iv ← holding [v, ov] (eval k X.env)
      standAt p2
      holding [v, ov, iv] (setItem ov iv v)
      release [v, ov, iv] []) := by intro _; rfl) (hs : swapsWithSole [.Subscript (.Name x p1) k p2] e pos.line X.env = pure false := by rfl) (hw : swappedStores [.Subscript (.Name x p1) k p2] e X.env = pure none := by rfl)
    (h1 : (assignEach [.Subscript (.Name x p1) k p2] X.env).map (·.2) = [assign (.Subscript (.Name x p1) k p2) X.env] := by rfl) : SS1 X (.Assign [.Subscript (.Name x p1) k p2] e pos) (sSetO i fk fe) :=
  ps_weak (ps_asg he (pg_sub hr hk set_list ha) hs hw h1) fun _ _ _ h => ts_seto h
theorem RVs.split : ∀ (n : Nat) {vs : List V} {ds : List D} {os : List Addr}, RVs K C M H vs ds os → n < ds.length → ∃ vs1 w vs2 ds1 e ds2 o1 o0 o2, vs = vs1 ++ w :: vs2 ∧ ds = ds1 ++ e :: ds2 ∧ os = o1 ++ (o0 ++ o2) ∧ vs1.length = n ∧ ds1.length = n ∧ RVs K C M H vs1 ds1 o1 ∧ RV K C M H w e o0 ∧ RVs K C M H vs2 ds2 o2
  | 0, _, _, _, .nil, hn => absurd hn (by simp)
  | n + 1, _, _, _, .nil, hn => absurd hn (by simp)
  | 0, _, _, _, @RVs.cons _ _ _ _ w vs e ds a b h t, hn => ⟨[], w, vs, [], e, ds, [], a, b, rfl, rfl, rfl, rfl, rfl, .nil, h, t⟩
  | n + 1, _, _, _, @RVs.cons _ _ _ _ w0 _ e0 _ a b h t, hn => by
    obtain ⟨vs1, w, vs2, ds1, e, ds2, o1, o0, o2, rfl, rfl, rfl, l1, l2, r1, r0, r2⟩ := RVs.split n t (by simpa using hn)
    exact ⟨w0 :: vs1, w, vs2, e0 :: ds1, e, ds2, a ++ o1, o0, o2, rfl, rfl, by rw [List.append_assoc], by simp [l1], by simp [l2], .cons h r1, r0, r2⟩
def sAppK (i : Nat) (fk : ES) (f : ES) : SS := fun env st => match env[i]? with
  | some (some (.own _)) => (fk env st).bind fun y => match y.1, y.2.1[i]? with
    | .int k, some (some (.own l)) => (ixN l.length k).bind fun j => match l[j]? with
      | some (.own _) => (f y.2.1 y.2.2).bind fun x => match x.2.1[i]? with
        | some (some (.own l2)) => match l2[j]? with
          | some (.own m) => if m.length < BIG then some (.nx (x.2.1.set i (some (.own (l2.set j (.own (m ++ [x.1])))))) x.2.2) else none
          | _ => none
        | _ => none
      | _ => none
    | _, _ => none
  | _ => none
theorem ts_appk {i : Nat} (h : tS X.K (sAppK i fk fe) N σ H) : tDrop (tBM X.K "list" rAppend (tOp (rIxL X.K) (tVar i) (tP X.K fk)) (tCons (tE X.K fe) tNil)) N σ H := by
  obtain ⟨C, O, M, env, st, r, fi, e, q⟩ := h
  unfold sAppK at e
  split at e
  · rename_i l0 e0
    rw [Option.bind_eq_some_iff] at e
    obtain ⟨⟨kd, env1, st1⟩, e1, e⟩ := e
    dsimp only at e
    split at e
    · rename_i k l e3
      rw [Option.bind_eq_some_iff] at e
      obtain ⟨j, e5, e⟩ := e
      split at e
      · rename_i m0 e6
        rw [Option.bind_eq_some_iff] at e
        obtain ⟨⟨a, env2, st2⟩, e2, e⟩ := e
        dsimp only at e
        split at e
        · rename_i l2 e4
          split at e
          · rename_i m e7
            split at e
            · rename_i hb
              cases e
              obtain ⟨v, o, s1, r0, _, _, _⟩ := fi.wr e0
              cases r0 with
              | @own p xs0 _ o0 hp0 r0 =>
                refine ⟨.ref p, s1, C, O, M, env, st, .int k, env1, st1, fi, e1, fun z H1 C1 O1 M1 os1 g1 fi1 r1 n1 => ?_⟩
                cases r1
                obtain ⟨v2, o2, s2, r2, sub2, nd2, _⟩ := fi1.wr e3
                have ev : v2 = .ref p := by
                  rw [s1] at s2
                  exact (Option.some.inj (Option.some.inj s2)).symm
                subst ev
                cases r2 with
                | @own _ xs1 _ o1 hp1 r2 =>
                  obtain ⟨w, ow, hw, rw1, _⟩ := r2.get e6
                  cases rw1 with
                  | @own p2 ys _ oy hy ry =>
                    have hat : atI xs1 k = some (.ref p2) := by
                      unfold atI
                      rw [r2.len, e5]
                      exact hw
                    refine ⟨p, xs1, k, .ref p2, rfl, rfl, SqL.of hp1, hat, .inl ⟨rfl, ys, SqL.of hy⟩, C1, O1, M1, env1, st1, a, env2, st2, fi1, e2, fun y H2 C2 O2 M2 os g2 fi2 r3 nd n2 => ?_⟩
                    obtain ⟨v3, o3, s3, r4, sub3, nd3', w⟩ := fi2.wr e4
                    have ev : v3 = .ref p := by
                      rw [s1] at s3
                      exact (Option.some.inj (Option.some.inj s3)).symm
                    subst ev
                    cases r4 with
                    | @own _ xs2 _ oo hp2 r4 =>
                      have hkeep : H2 p = some (.lst xs1) := g2.keep p _ (fi1.oc p (sub2 p (List.mem_cons_self ..))) (fun z => z.elim) hp1
                      have ex : xs2 = xs1 := by
                        rw [hp2] at hkeep
                        cases hkeep
                        rfl
                      subst ex
                      have hjl : j < l2.length := (List.getElem?_eq_some_iff.mp e7).1
                      obtain ⟨vs1, w', vs2, ds1, e', ds2, q1, q0, q2, rfl, rfl, rfl, l1, l2', ra, rb, rc⟩ := RVs.split j r4 hjl
                      have ew : w' = .ref p2 := by
                        rw [List.getElem?_append_right (by omega), l1] at hw
                        simpa using hw
                      have ee : e' = .own m := by
                        rw [List.getElem?_append_right (by omega), l2'] at e7
                        simpa using e7
                      subst ew ee
                      cases rb with
                      | @own _ zs _ om hz rm =>
                        have pin : p2 ∈ p :: (q1 ++ (p2 :: om ++ q2)) := by simp
                        have mp2 : M2 p2 := fi2.mO p2 (sub3 p2 pin)
                        have hne : p ≠ p2 := by
                          have := (List.nodup_cons.mp nd3').1
                          intro z
                          subst z
                          exact this (by simp)
                        have npos : ∀ x ∈ os, x ∉ p :: (q1 ++ (p2 :: om ++ q2)) := fun x hx z => (n2 x hx).2.1 (sub3 x z)
                        have nd5 := nd3'
                        rw [List.nodup_cons, List.nodup_append, List.nodup_append, List.nodup_cons] at nd5
                        obtain ⟨_, m1, ⟨⟨m2, m3⟩, m4, m5⟩, m6⟩ := nd5
                        have k1 : ∀ a o, ¬ M2 a → H2 a = some o → upd H2 p2 (.lst (zs ++ [y])) a = some o := fun a o h e => by rw [upd_ne (fun z => h (by rw [z]; exact mp2))]; exact e
                        have k2 : ∀ (os' : List Addr), p2 ∉ os' → ∀ x ∈ os', ∀ o, H2 x = some o → upd H2 p2 (.lst (zs ++ [y])) x = some o := fun os' h x hx o e => by rw [upd_ne (fun z => h (by rw [← z]; exact hx))]; exact e
                        have ra' : RVs X.K C2 M2 (upd H2 p2 (.lst (zs ++ [y]))) vs1 ds1 q1 := ra.mono (fun _ _ e => e) k1 (fun _ _ h _ => h) (k2 q1 fun z => m6 p2 z p2 (by simp) rfl)
                        have rc' : RVs X.K C2 M2 (upd H2 p2 (.lst (zs ++ [y]))) vs2 ds2 q2 := rc.mono (fun _ _ e => e) k1 (fun _ _ h _ => h) (k2 q2 fun z => m5 p2 (by simp) p2 z rfl)
                        have rm' : RVs X.K C2 M2 (upd H2 p2 (.lst (zs ++ [y]))) (zs ++ [y]) (m ++ [a]) (om ++ os) :=
                          (rm.mono (fun _ _ e => e) k1 (fun _ _ h _ => h) (k2 om m2)).app (RVs.one (r3.mono (fun _ _ e => e) k1 (fun _ _ h _ => h) (k2 os fun z => npos p2 z pin)))
                        have rn : RV X.K C2 M2 (upd H2 p2 (.lst (zs ++ [y]))) (.ref p2) (.own (m ++ [a])) (p2 :: (om ++ os)) := .own upd_same rm'
                        have rall : RV X.K C2 M2 (upd H2 p2 (.lst (zs ++ [y]))) (.ref p) (.own (ds1 ++ .own (m ++ [a]) :: ds2)) (p :: (q1 ++ (p2 :: (om ++ os) ++ q2))) :=
                          .own (by rw [upd_ne hne]; exact hp2) (ra'.app (.cons rn rc'))
                        have perm : (p :: (q1 ++ (p2 :: (om ++ os) ++ q2))).Perm ((p :: (q1 ++ (p2 :: om ++ q2))) ++ os) := by
                          have h1 : ((om ++ os) ++ q2).Perm ((om ++ q2) ++ os) := by
                            rw [List.append_assoc, List.append_assoc]
                            exact List.Perm.append_left om List.perm_append_comm
                          have h2 := ((h1.cons p2).append_left q1).cons p
                          simpa using h2
                        obtain ⟨O3, fi3, m7⟩ := w p2 (zs ++ [y]) _ _ pin (fun x hx => by
                          rcases List.mem_append.mp (perm.mem_iff.mp hx) with z | z
                          · exact .inl z
                          · exact .inr ⟨(n2 x z).1, (n2 x z).2.1, (n2 x z).2.2.1⟩) (perm.nodup_iff.mpr (by
                          rw [List.nodup_append]
                          exact ⟨nd3', nd, fun x hx u hu z => npos u hu (z ▸ hx)⟩)) rall
                        have eset : (ds1 ++ D.own m :: ds2).set j (.own (m ++ [a])) = ds1 ++ .own (m ++ [a]) :: ds2 := by
                          rw [← l2']
                          simp [List.set_append]
                        rw [eset] at q
                        refine ⟨p2, zs, y, rfl, rfl, hz, by rw [rm.len]; exact Nat.lt_of_lt_of_le hb (by decide), ?_⟩
                        have g12 := g1.trans fi.ci.tr g2
                        refine q σ _ C2 O3 M2 (g12.wr (sub3 p2 pin) fun x hx => ?_) fi3
                        rcases m7 x hx with z | z
                        · exact g12.ownd x z
                        · rcases List.mem_append.mp (perm.mem_iff.mp z) with z | z
                          · exact g12.ownd x (sub3 x z)
                          · rcases (n2 x z).2.2.2 with y1 | y1
                            · exact g1.ownd x y1
                            · exact .inr (g1.back x y1)
            · cases e
          · cases e
        · cases e
      · cases e
    · cases e
  · cases e
theorem s1_appk {i : Nat} {x : Str} {p1 p0 p2 cpos pos : Pos} {k e : Expr} (hr : PE X (.Name x p1) (tVar i)) (hk : SP X k fk) (hpl : PlainIx k) (he : SE X e fe) (hbase : attributeBase (.Subscript (.Name x p1) k p0) "append" X.env (eval (.Subscript (.Name x p1) k p0) X.env) = eval (.Subscript (.Name x p1) k p0) X.env := by rfl)
    (hfew : ((backTo cpos (starEach [e] X.env)).all (fun x => !x.1) && (backToKw cpos (keywordEach [] X.env)).all (fun x => x.1.isSome)
      && decide ([e].length + ([] : List Keyword).length + (if ([] : List Keyword).isEmpty then 0 else 1) < 30)) = true := by rfl)
    (hline : (p2.endLine == cpos.line) = true := by rfl) (hs : starEach [e] X.env = (false, eval e X.env) :: starEach [] X.env := by rfl) (hplain : (backTo cpos (starEach [] X.env)).any (·.1) = false := by rfl) :
    SS1 X (.Expr (.Call (.Attribute (.Subscript (.Name x p1) k p0) "append" p2) [e] [] cpos) pos) (sAppK i fk fe) :=
  ps_weak (ps_expr (pe_bm PySem.F.plainAttrs_list PySem.F.slot_list_append PySem.F.type_list_append mt_append (pe_ix ix_list hr hk hpl) (pa_cons he pa_nil hs) hbase hfew hline hs hplain)) fun _ _ _ h => ts_appk h
end
end Pv

/-! # PvU -/
set_option Elab.async false
set_option linter.all false
set_option maxHeartbeats 1000000
/-! more words: max and min of a tuple, of three; xs[::-1]; xs.index(x) -/
namespace Pv
open PySem PySem.Spec PyProof.Rows L2
section
variable {X : Cx} {K : PySem.W.Frag} {C O C1 O1 C2 O2 : List Addr} {M M1 M2 : Addr → Prop} {H H1 H2 : Hp} {st st1 st2 : Ms} {v v1 v2 : V} {d d1 d2 : D} {o o1 o2 os : List Addr} {Q : VK} {vs : List V} {σ : L2.St} {env env1 env2 : Env} {fe fk : ES}
theorem room5 {k : Nat} {A : Around} (hr : Room k A) : A.units + 65 < cLine := by have := hr.un; omega
def rExtT (K : PySem.W.Frag) (m : PyData → List PyData → PyData) : List V → Hp → VK → Prop := fun xs H Q => ∃ p items d ds, xs = [.ref p] ∧ SqT K H p items ∧ DpAll K H items (d :: ds) ∧ PySem.W.AlikeAll (d :: ds) ∧ PyData.depthAll (d :: ds) ≤ 60 ∧
  ∀ (i : Nat) (v : V), items[i]? = some v → (d :: ds)[i]? = some (m d ds) → Q v H
theorem call_minT (hc : X.calm = true) (hu : X.A.units + 64 < cLine) : CallR X (.builtin "min") (rExtT X.K PySem.W.minD) := by
  intro pins s σ H xs us Q I r h
  obtain ⟨p, items, d, ds, rfl, sq, dp, al, hd, q⟩ := h
  obtain ⟨u, rfl, rv⟩ := Vals.one r
  cases rv
  obtain ⟨its, rvs, pl, hz⟩ := I.tuple sq
  obtain ⟨as, rd⟩ := Dp.readsAll I (d :: ds) items its dp rvs
  exact PySem.W.min_tuple_data (I.ok.hd hc) pl (by simpa using rd) al (by omega) fun i u h' tk bs e1 r1 hk => ext_end I rvs rd e1 r1 hk q
theorem call_maxT (hc : X.calm = true) (hu : X.A.units + 64 < cLine) : CallR X (.builtin "max") (rExtT X.K PySem.W.maxD) := by
  intro pins s σ H xs us Q I r h
  obtain ⟨p, items, d, ds, rfl, sq, dp, al, hd, q⟩ := h
  obtain ⟨u, rfl, rv⟩ := Vals.one r
  cases rv
  obtain ⟨its, rvs, pl, hz⟩ := I.tuple sq
  obtain ⟨as, rd⟩ := Dp.readsAll I (d :: ds) items its dp rvs
  exact PySem.W.max_tuple_data (I.ok.hd hc) pl (by simpa using rd) al (by omega) fun i u h' tk bs e1 r1 hk => ext_end I rvs rd e1 r1 hk q
theorem pls_mem {di : D} : ∀ {l : List D}, D.pls l = true → di ∈ l → di.pl = true
  | [], _, h => nomatch h
  | a :: l, h, hm => by
    simp only [D.pls, Bool.and_eq_true] at h
    rcases List.mem_cons.mp hm with z | z
    · rw [z]; exact h.1
    · exact pls_mem h.2 z
/-- of a list or a tuple -/
def ex2D (m : PyData → List PyData → PyData) (st : Ms) (ds : List D) : Option D := match ds with
  | [.tup (x :: xs)] => if D.pls (x :: xs) = true ∧ D.ofs (x :: xs) = true ∧ alikeB (D.pys (x :: xs)) = true ∧ PyData.depthAll (D.pys (x :: xs)) ≤ 60 then some (ofPy (m x.py (D.pys xs))) else none
  | ds => extD m st ds
theorem ok_ex2 {m : PyData → List PyData → PyData} : ClOk K (fun xs H Q => rExt K m xs H Q ∨ rExtT K m xs H Q) (ex2D m) := by
  intro C M H st vs ds os res Q ci r e q
  unfold ex2D at e
  split at e
  · rename_i x xs
    split at e
    · rename_i hc
      cases e
      obtain ⟨v, rfl, r9⟩ := rvs_one r
      obtain ⟨p, items, rfl, h1, r1⟩ := ti_ok r9 hc.2.1
      have dp : DpAll K H items (D.pys (x :: xs)) := r1.dp (pls_ncs _ hc.1)
      refine .inr ⟨p, items, x.py, D.pys xs, rfl, h1, by simpa only [D.pys] using dp, by have := alikeB_ok hc.2.2.1; simpa only [D.pys] using this, by simpa only [D.pys] using hc.2.2.2, fun i v e3 e4 => ?_⟩
      have e5 : (D.pys (x :: xs))[i]? = some (m x.py (D.pys xs)) := by simpa only [D.pys] using e4
      rw [pys_at, Option.map_eq_some_iff] at e5
      obtain ⟨di, e6, e7⟩ := e5
      obtain ⟨w, e8, rv⟩ := r1.get0 e6
      rw [e3] at e8
      cases e8
      rw [← e7, ofPy_py di (pls_mem hc.1 (List.mem_of_getElem? e6))] at q
      exact q.val ci rv
    · cases e
  · exact .inl (ok_ext C M H st vs _ os res Q ci r e q)
theorem b_max1t {a : Expr} {f1 : ES} {p pos : Pos} (hc : X.calm = true) (hu : X.A.units + 64 < cLine) (hg : Gl X "max") (hm : X.mg "max" = none) (ha : SP X a f1) (he : starEach [a] X.env = (false, eval a X.env) :: starEach [] X.env := by rfl) : SE X (.Call (.Name "max" p) [a] [] pos) (fCl (ex2D PySem.W.maxD) (aCons f1 aNil)) :=
  se_clB ((call_maxD hc hu).or (call_maxT hc hu)) ok_ex2 hg hm bt_max (sps_cons ha sps_nil he) (by decide) (by decide) he
theorem b_min1t {a : Expr} {f1 : ES} {p pos : Pos} (hc : X.calm = true) (hu : X.A.units + 64 < cLine) (hg : Gl X "min") (hm : X.mg "min" = none) (ha : SP X a f1) (he : starEach [a] X.env = (false, eval a X.env) :: starEach [] X.env := by rfl) : SE X (.Call (.Name "min" p) [a] [] pos) (fCl (ex2D PySem.W.minD) (aCons f1 aNil)) :=
  se_clB ((call_minD hc hu).or (call_minT hc hu)) ok_ex2 hg hm bt_min (sps_cons ha sps_nil he) (by decide) (by decide) he
/-! of three ints -/
def max3D (_ : Ms) (ds : List D) : Option D := match ds with
  | [.int i, .int j, .int k] => some (.int (max (max i j) k))
  | _ => none
def min3D (_ : Ms) (ds : List D) : Option D := match ds with
  | [.int i, .int j, .int k] => some (.int (min (min i j) k))
  | _ => none
theorem numax {i j : Int} : nuMax2 (.int i) (.int j) = some (.int (max i j)) := by
  show some (if decide (i < j) = true then V.int j else V.int i) = _
  by_cases h : i < j
  · simp [h, Int.max_eq_right (Int.le_of_lt h)]
  · simp [h, Int.max_eq_left (Int.not_lt.mp h)]
theorem numin {i j : Int} : nuMin2 (.int i) (.int j) = some (.int (min i j)) := by
  show some (if decide (j < i) = true then V.int j else V.int i) = _
  by_cases h : j < i
  · simp [h, Int.min_eq_right (Int.le_of_lt h)]
  · simp [h, Int.min_eq_left (Int.not_lt.mp h)]
theorem rvs3 {ds : List D} {i j k : Int} (r : RVs K C M H vs [.int i, .int j, .int k] os) : vs = [.int i, .int j, .int k] := by
  obtain ⟨u, v, w, _, _, _, rfl, r1, r2, r3⟩ := rvs_three r
  cases r1
  cases r2
  cases r3
  rfl
theorem ok_max3 : ClOk K (rNuC3 nuMax3) max3D := by
  intro C M H st vs ds os res Q ci r e q
  unfold max3D at e
  split at e
  · cases e
    rename_i i j k
    have := rvs3 (ds := []) r
    subst this
    exact ⟨_, _, _, _, rfl, by unfold nuMax3; rw [numax]; exact numax, q.val ci (.int _)⟩
  · cases e
theorem b_max3 {a b c : Expr} {f1 f2 f3 : ES} {p pos : Pos} (hc : X.calm = true) (hg : Gl X "max") (hm : X.mg "max" = none) (ha : SP X a f1) (hb : SP X b f2) (hcc : SP X c f3) (he : starEach [a, b, c] X.env = (false, eval a X.env) :: starEach [b, c] X.env := by rfl)
    (he2 : starEach [b, c] X.env = (false, eval b X.env) :: starEach [c] X.env := by rfl) (he3 : starEach [c] X.env = (false, eval c X.env) :: starEach [] X.env := by rfl) (hpl : (backTo pos (starEach [b, c] X.env)).any (·.1) = false := by rfl) : SE X (.Call (.Name "max" p) [a, b, c] [] pos) (fCl max3D (aCons f1 (aCons f2 (aCons f3 aNil)))) :=
  se_clB (call_max3Nu hc) ok_max3 hg hm bt_max (sps_cons ha (sps_cons hb (sps_cons hcc sps_nil he3) he2) he) (by decide) (by decide) he hpl
end
end Pv

/-! # PvV -/
set_option Elab.async false
set_option linter.all false
set_option maxHeartbeats 1000000
/-! a module's constant that is a flat tuple -/
namespace Pv
open PySem PySem.Spec PyProof.Rows L2
section
variable {X : Cx} {K : PySem.W.Frag} {mg : Str → Option Value} {h : Heap} {x : Str} {pos : Pos} {ex : Expr}
def dV : D → V
  | .int i => .int i
  | .str s => .str s
  | .bl b => .bl b
  | _ => .non
def flatB : D → Bool
  | .int _ => true | .str _ => true | .bl _ => true | .non => true
  | _ => false
theorem rvs_flat {C : List Addr} {M : Addr → Prop} {H : Hp} : ∀ {ds : List D}, ds.all flatB = true → RVs K C M H (ds.map dV) ds []
  | [], _ => .nil
  | d :: ds, h => by
    rw [List.all_cons, Bool.and_eq_true] at h
    refine .cons0 ?_ (rvs_flat h.2)
    cases d with
    | non => exact .non
    | bl b => exact .bl b
    | int i => exact .int i
    | str s => exact .str s
    | _ => exact absurd h.1 (by simp [flatB])
def Gd (K : PySem.W.Frag) (mg : Str → Option Value) (x : Str) (ds : List D) : Prop := ds.all flatB = true ∧ ∃ p, mg x = some (.ref p) ∧ ∀ H', SqT K H' p (ds.map dV)
theorem sz_cK {v : V} {d : D} (h : PE X ex (tC v)) (r : ∀ C M H, RV X.K C M H v d []) : SZ X ex (fC d) := pe_weak h fun σ H Q ⟨C, O, M, env, st, d, env', st', fi, e, q⟩ => by
  cases e
  exact q v H C O M .refl fi (r ..)
theorem sz_gd {ds : List D} (hg : Gl X x) (g : Gd X.K X.mg x ds) (hd : (x == ("__debug__" : Str)) = false := by decide) : SZ X (.Name x pos) (fC (.tup ds)) := by
  obtain ⟨hf, p, hm, hs⟩ := g
  exact sz_cK (pe_glob (v := .ref p) hg hm rfl hd) fun C M H => .tup (.inr hs) (rvs_flat hf)
theorem gd_mk {p : Addr} {o : Obj} {ds : List D} (KX : K.In h) (G : h.Ns mainGlobals mg) (a : PySem.W.nsIn K mainGlobals x = some (some (.ref p))) (b : K.lookup p = some o) (hf : ds.all flatB = true)
    (c : o.cls = .type "tuple" ∧ ∃ (its : Array Value) (n : Nat), o.data = .seq its n ∧ its.size ≤ sizeLine ∧ Vals (ds.map dV) its.toList) : Gd K mg x ds := by
  obtain ⟨c1, its, n, c2, c3, c4⟩ := c
  exact ⟨hf, p, PySem.W.mg_of KX G a, fun H' => .inr ⟨o, its, n, b, c1, c2, c3, c4⟩⟩
end
end Pv

/-! # PvV2 -/
set_option Elab.async false
set_option linter.all false
set_option maxHeartbeats 1000000
/-! isinstance(x, (A, B)) -/
namespace Pv
open PySem PySem.Spec PyProof.Rows L2
section
variable {X : Cx} {e c1 c2 : Expr} {f : ES} {p pos tpos : Pos} {k : Nat}
def fIsa2 (A B : String) (f : ES) : ES := fun env st => (f env st).map fun x => (.bl (isaB A x.1 || isaB B x.1), x.2)
theorem se_isa2 (A B : String) (hA : ∀ a ∈ tys, kitB a A = some (a == A || (a == "bool" && A == "int"))) (hB : ∀ a ∈ tys, kitB a B = some (a == B || (a == "bool" && B == "int"))) (hg : Gl X "isinstance") (hm : X.mg "isinstance" = none) (ha : SP X e f) (h1 : PE X c1 (tC (.ty A))) (h2 : PE X c2 (tC (.ty B)))
    (hc1 : starEach [c1, c2] X.env = (false, eval c1 X.env) :: starEach [c2] X.env := by rfl) (hc2 : starEach [c2] X.env = (false, eval c2 X.env) :: starEach [] X.env := by rfl)
    (he : starEach (e :: [.Tuple [c1, c2] k tpos]) X.env = (false, eval e X.env) :: starEach [.Tuple [c1, c2] k tpos] X.env := by rfl) (hec : starEach [.Tuple [c1, c2] k tpos] X.env = (false, eval (.Tuple [c1, c2] k tpos) X.env) :: starEach [] X.env := by rfl) (hpl : (backTo pos (starEach [.Tuple [c1, c2] k tpos] X.env)).any (·.1) = false := by rfl) :
    SE X (.Call (.Name "isinstance" p) [e, .Tuple [c1, c2] k tpos] [] pos) (fIsa2 A B f) := pe_weak (pe_callB call_isiT hg hm (by decide +kernel) (pa_cons ha (pa_cons (pe_tup (pa_cons h1 (pa_cons h2 pa_nil hc2) hc1)) pa_nil hec) he) (by decide) (by decide) he hpl) fun σ H Q ⟨C, O, M, env, st, d, env', st', fi, e, q⟩ => by
  unfold fIsa2 at e
  rw [Option.map_eq_some_iff] at e
  obtain ⟨⟨a, env1, st1⟩, e1, e⟩ := e
  cases e
  refine ⟨C, O, M, env, st, a, env', st', fi, e1, fun v1 H1 C1 O1 M1 o1 g1 fi1 r1 n1 => ?_⟩
  refine ⟨by show 2 ≤ sizeLine; decide, fun tp hp => ?_⟩
  have gr : Gr M1 H1 M1 (upd H1 tp (.tup [.ty A, .ty B])) := Gr.tup fi1.ci.tr hp
  have fi2 := gr.fi fi1
  have ht := tyx fi2.ci (gr.rv r1)
  refine ⟨v1, tp, [.ty A, .ty B], .type a.ty, [.type A, .type B], (isaB A a || isaB B a), rfl, upd_same, .cons (.ty A) (.cons (.ty B) .nil), ht, ?_, ?_⟩
  · have kA := kit_ty (K := X.K) (hA _ (ty_mem a))
    have kB := kit_ty (K := X.K) (hB _ (ty_mem a))
    refine kitAny_cons kA (fun z => ?_) (fun z => ?_)
    · refine kitAny_cons kB (fun z2 => ?_) (fun z2 => ?_)
      · rw [kitAny_nil]
        congr 1
        unfold isaB
        rw [z, z2]
        rfl
      · unfold isaB
        rw [z2, Bool.or_true]
    · unfold isaB
      rw [z]
      rfl
  · exact q _ _ C1 O1 M1 [] (g1.trans fi.ci.tr gr.go) fi2 (.bl _) .nil fun a ha => nomatch ha
end
end Pv

/-! # PvV3 -/
set_option Elab.async false
set_option linter.all false
set_option maxHeartbeats 1000000
/-! list(range(a, b)) -/
namespace Pv
open PySem PySem.Spec PyProof.Rows L2
section
variable {X : Cx} {a b : Expr} {f1 f2 : ES} {p pos : Pos}
def fLrg2 (f1 f2 : ES) : ES := fun env st => (f1 env st).bind fun x => (f2 x.2.1 x.2.2).bind fun y => match x.1, y.1 with
  | .int m, .int n => if okR m = true ∧ okR n = true then some (.own (rgD m n), y.2) else none
  | _, _ => none
theorem se_lrg2 {p2 pos2 : Pos} (hc : X.calm = true) (hg : Gl X "list") (hm : X.mg "list" = none) (hg2 : Gl X "range") (hm2 : X.mg "range" = none) (ha : SP X a f1) (hb : SP X b f2) (na : starEach [a, b] X.env = (false, eval a X.env) :: starEach [b] X.env := by rfl) (na2 : starEach [b] X.env = (false, eval b X.env) :: starEach [] X.env := by rfl)
    (hpl : (backTo pos (starEach [b] X.env)).any (·.1) = false := by rfl) (nb : starEach [.Call (.Name "range" p) [a, b] [] pos] X.env = (false, eval (.Call (.Name "range" p) [a, b] [] pos) X.env) :: starEach [] X.env := by rfl) :
    SE X (.Call (.Name "list" p2) [.Call (.Name "range" p) [a, b] [] pos] [] pos2) (fLrg2 f1 f2) := pe_weak (pe_listRg hc hg hm (prg_2 hg2 hm2 ha hb na na2 hpl) nb) fun σ H Q ⟨C, O, M, env, st, d, env', st', fi, e, q⟩ => by
  unfold fLrg2 at e
  rw [Option.bind_eq_some_iff] at e
  obtain ⟨⟨a, env1, st1⟩, e1, e⟩ := e
  rw [Option.bind_eq_some_iff] at e
  obtain ⟨⟨b, env2, st2⟩, e2, e⟩ := e
  dsimp only at e e2
  split at e
  · split at e
    · rename_i m n hb
      cases e
      have h1 := okR_le hb.1
      have h2 := okR_le hb.2
      refine ⟨C, O, M, env, st, _, env1, st1, fi, e1, fun v1 H1 C1 O1 M1 o1 g1 fi1 r1 n1 => ?_⟩
      refine ⟨C1, O1, M1, env1, st1, _, env', st', fi1, e2, fun v2 H2 C2 O2 M2 o2 g2 fi2 r2 n2 => ?_⟩
      cases r1
      cases r2
      exact ⟨m, n, rfl, rfl, ⟨by omega, by omega, by omega, by omega, by omega⟩, fun p hp => ans_new fi2.ci rgD_ok (ans_of fi (g1.trans fi.ci.tr g2) fi2 q) hp⟩
    · cases e
  · cases e
end
end Pv

/-! # PvV4 -/
set_option Elab.async false
set_option linter.all false
set_option maxHeartbeats 1000000
/-! a, b, c = e1, e2, e3, three locals -/
namespace Pv
open PySem PySem.Spec PyProof.Rows L2
section
variable {X : Cx} {K : PySem.W.Frag} {a b c : Expr} {fs : AS} {p pos : Pos} {σ : L2.St} {H : Hp}
def sPar3 (i j l : Nat) (fs : AS) : SS := fun env st => (fs env st).bind fun x => match x.1 with
  | [d1, d2, d3] => (setAll [i, j, l] [d1, d2, d3] x.2.1).map fun e => .nx e x.2.2
  | _ => none
theorem ts_par3 {i j l : Nat} {N : Ends} (h : tS K (sPar3 i j l fs) N σ H) : tPar3 i j l (tEs K fs) N σ H := by
  obtain ⟨C, O, M, env, st, r, fi, e, q⟩ := h
  unfold sPar3 at e
  rw [Option.bind_eq_some_iff] at e
  obtain ⟨⟨ds, env1, st1⟩, e1, e⟩ := e
  dsimp only at e
  split at e
  · rename_i d1 d2 d3
    rw [Option.map_eq_some_iff] at e
    obtain ⟨env2, e2, rfl⟩ := e
    refine ⟨C, O, M, env, st, [d1, d2, d3], env1, st1, fi, e1, fun vs H1 C1 O1 M1 os g1 fi1 r1 nd n1 => ?_⟩
    have w2 := names_ok [i, j, l] (Q := fun σ' H' => ∀ σ'' , σ' = σ'' → N.nx σ'' H') fi1 r1 nd (fun a ha => ⟨(n1 a ha).1, (n1 a ha).2.1, (n1 a ha).2.2.1⟩) e2 fun σ' O' f' s' σ'' e => by
      subst e
      refine q σ' H1 C1 O' M1 ⟨fun a o h1 _ h3 => g1.keep a o h1 (fun z => z.elim) h3, g1.pre, g1.weak.newc, g1.fresh, g1.forn, fun a ha => ?_, g1.back⟩ f'
      rcases s' a ha with z | z
      · exact g1.ownd a z
      · exact (n1 a z).2.2.2
    obtain ⟨v, r1', rfl, v2, r2', rfl, v3, r3', rfl, rfl, w⟩ := w2
    exact ⟨v, v2, v3, rfl, w _ rfl⟩
  · cases e
theorem s1_par3 {i j l : Nat} {x y z : Str} {px py pz pt : Pos} {kt k2 : Nat} {pt2 spos : Pos} (hc : X.calm = true) (hN : X.N.Nodup) (hi : X.N[i]? = some x) (hj : X.N[j]? = some y) (hl : X.N[l]? = some z) (hij : i ≠ j) (hil : i ≠ l) (hjl : j ≠ l)
    (hx : X.env.scope.names.lookup x = some .local) (hy : X.env.scope.names.lookup y = some .local) (hz : X.env.scope.names.lookup z = some .local) (ha : SEs X [a, b, c] fs)
    (hw : swappedStores [.Tuple [.Name x px, .Name y py, .Name z pz] kt pt] (.Tuple [a, b, c] k2 pt2) X.env = pure (some [x, y, z])) (hs : swapsWithSole [.Tuple [.Name x px, .Name y py, .Name z pz] kt pt] (.Tuple [a, b, c] k2 pt2) spos.line X.env = pure false := by rfl) :
    SS1 X (.Assign [.Tuple [.Name x px, .Name y py, .Name z pz] kt pt] (.Tuple [a, b, c] k2 pt2) spos) (sPar3 i j l fs) := ps_weak (ps_par3 hc hN hi hj hl hij hil hjl hx hy hz ha hw hs) fun _ _ _ h => ts_par3 h
end
end Pv

/-! # PvV5 -/
set_option Elab.async false
set_option linter.all false
set_option maxHeartbeats 1000000
/-! a, b = e, e a tuple or a list -/
namespace Pv
open PySem PySem.Spec PyProof.Rows L2
section
variable {X : Cx} {K : PySem.W.Frag} {f : ES} {σ : L2.St} {H : Hp} {tpos : Pos}
theorem pg_or {e : Expr} {t1 t2 : TG} (h1 : PG X e t1) (h2 : PG X e t2) : PG X e (fun v σ H Q => t1 v σ H Q ∨ t2 v σ H Q) := ⟨fun pins s σ H v u Q I r q => q.elim (h1.run pins s σ H v u Q I r) (h2.run pins s σ H v u Q I r)⟩
def seqOf : D → Option (List D)
  | .tup l => some l | .own l => some l | .lst l => some l
  | _ => none
def sUnp2 (is : List Nat) (f : ES) : SS := fun env st => (f env st).bind fun x => (seqOf x.1).bind fun ds => if ds.length = is.length then (setAll is ds x.2.1).map fun e => .nx e x.2.2 else none
theorem ts_unp2 {is : List Nat} {N : Ends} (h : tS K (sUnp2 is f) N σ H) : tAsg (tE K f) (fun v σ H Q => gTup K is.length (gNames is) v σ H Q ∨ gLst K is.length (gNames is) v σ H Q) N σ H := by
  obtain ⟨C, O, M, env, st, r, fi, e, q⟩ := h
  unfold sUnp2 at e
  rw [Option.bind_eq_some_iff] at e
  obtain ⟨⟨a, env1, st1⟩, e1, e⟩ := e
  rw [Option.bind_eq_some_iff] at e
  obtain ⟨ds, e0, e⟩ := e
  dsimp only at e e0
  split at e
  · rename_i hl
    rw [Option.map_eq_some_iff] at e
    obtain ⟨env2, e2, rfl⟩ := e
    refine ⟨C, O, M, env, st, a, env1, st1, fi, e1, fun v H1 C1 O1 M1 os g1 fi1 r1 nd n1 => ?_⟩
    have fin : ∀ {xs : List V} {o : List Addr}, RVs K C1 M1 H1 xs ds o → o.Nodup → (∀ x ∈ o, x ∈ os) → gNames is xs σ H1 N.nx := fun {xs o} r nd2 sub => by
      refine names_ok is fi1 r nd2 (fun a ha => ⟨(n1 a (sub a ha)).1, (n1 a (sub a ha)).2.1, (n1 a (sub a ha)).2.2.1⟩) e2 fun σ' O' f' s' => ?_
      refine q σ' H1 C1 O' M1 ⟨fun a o h1 _ h3 => g1.keep a o h1 (fun z => z.elim) h3, g1.pre, g1.weak.newc, g1.fresh, g1.forn, fun a ha => ?_, g1.back⟩ f'
      rcases s' a ha with z | z
      · exact g1.ownd a z
      · exact (n1 a (sub a z)).2.2.2
    cases r1 with
    | @tup p xs _ _ h r =>
      cases e0
      exact .inl ⟨p, xs, rfl, tr_keep .refl fi1.ci.mC fi1.mO h, r.len.trans hl, fin r nd fun _ h => h⟩
    | @own p xs _ o h r =>
      cases e0
      exact .inr ⟨p, xs, rfl, SqL.of h, r.len.trans hl, fin r (List.nodup_cons.mp nd).2 fun _ h => List.mem_cons_of_mem _ h⟩
    | @lst p xs _ h r =>
      cases e0
      exact .inr ⟨p, xs, rfl, SqL.of h.1, r.len.trans hl, fin r .nil fun _ h => h⟩
    | _ => cases e0
  · cases e
theorem s1_unp2 {is : List Nat} {k : Nat} {ss : List Expr} {ex : Expr} {spos : Pos} (he : SE X ex f) (hg : PG X (.Tuple ss k tpos) (gTup X.K is.length (gNames is))) (hg2 : PG X (.Tuple ss k tpos) (gLst X.K is.length (gNames is))) (hs : swapsWithSole [.Tuple ss k tpos] ex spos.line X.env = pure false := by rfl) (hw : swappedStores [.Tuple ss k tpos] ex X.env = pure none := by rfl)
    (h1 : (assignEach [.Tuple ss k tpos] X.env).map (·.2) = [assign (.Tuple ss k tpos) X.env] := by rfl) : SS1 X (.Assign [.Tuple ss k tpos] ex spos) (sUnp2 is f) := ps_weak (ps_asg he (pg_or hg hg2) hs hw h1) fun _ _ _ h => ts_unp2 h
end
end Pv

/-! # PvV6 -/
set_option Elab.async false
set_option linter.all false
set_option maxHeartbeats 1000000
/-! a call's new list handed on as a cell -/
namespace Pv
open PySem PySem.Spec PyProof.Rows L2
section
variable {X : Cx} {K : PySem.W.Frag} {C O C1 O1 : List Addr} {M M1 M2 : Addr → Prop} {H H1 H2 : Hp} {σ : L2.St} {env env1 : Env} {st st1 st2 : Ms} {Q : VK} {v : V} {os : List Addr} {ds : List D}
theorem cell_reg (fi : FI K C O M H σ env st) (g1 : Go False C O M H C1 O1 M1 H1) (fi1 : FI K C1 O1 M1 H1 σ env1 st1) (r1 : RV K C1 M1 H1 v (.own ds) os) (nd : os.Nodup) (n1 : ∀ a ∈ os, a ∉ C1 ∧ a ∉ O1 ∧ M1 a ∧ H a = none) (hnc : D.ncs (D.fzs ds) = true) :
    ∃ C2 M2, Go False C O M H C2 O1 M2 H1 ∧ FI K C2 O1 M2 H1 σ env1 (st1 ++ [D.fzs ds]) ∧ RV K C2 M2 H1 v (.cell st1.length) [] := by
  cases r1 with
  | @own p xs _ o1 hp r1 =>
    obtain ⟨np, nd1⟩ := List.nodup_cons.mp nd
    obtain ⟨p1, p2, p3, p4⟩ := n1 p (List.mem_cons_self ..)
    have n2 : ∀ a ∈ o1, a ∉ C1 ∧ a ∉ O1 ∧ M1 a ∧ H a = none := fun a ha => n1 a (List.mem_cons_of_mem _ ha)
    have fl := fi1.less (os := o1) (fun a ha => (n2 a ha).1) fun a ha => (n2 a ha).2.1
    have mp : (fun a => M1 a ∧ a ∉ o1) p := ⟨p3, np⟩
    have rz : RVs K C1 (fun a => M1 a ∧ a ∉ o1) H1 xs (D.fzs ds) [] := r1.fz (fun a h z => h z.1) fun a ha z => z.2 ha
    have hcat : ∀ (c : Nat) (q : Addr), C1[c]? = some q → (C1 ++ [p])[c]? = some q := fun c q e => by
      rw [List.getElem?_append_left (List.getElem?_eq_some_iff.mp e).1]
      exact e
    have hlast : (C1 ++ [p])[st1.length]? = some p := by
      rw [fi1.ci.len, List.getElem?_append_right (Nat.le_refl _), Nat.sub_self]
      rfl
    have ci2 : CI K (C1 ++ [p]) (fun a => M1 a ∧ a ∉ o1) H1 (st1 ++ [D.fzs ds]) := by
      refine ⟨by rw [List.length_append, List.length_append, fi1.ci.len]; rfl, fun j es q e1 e2 => ?_, ?_, fun a ha => ?_, fl.ci.tr⟩
      · by_cases hj : j < st1.length
        · rw [List.getElem?_append_left hj] at e1
          rw [List.getElem?_append_left (by rw [← fi1.ci.len]; exact hj)] at e2
          exact fl.ci.at_ j es q e1 e2
        · rw [List.getElem?_append_right (Nat.le_of_not_lt hj)] at e1
          rw [List.getElem?_append_right (by rw [← fi1.ci.len]; exact Nat.le_of_not_lt hj)] at e2
          rw [← fi1.ci.len] at e2
          cases hz : j - st1.length with
          | zero =>
            rw [hz] at e1 e2
            cases e1
            cases e2
            exact ⟨xs, hp, rz.free hnc⟩
          | succ m =>
            rw [hz] at e1
            simp at e1
      · rw [List.nodup_append]
        refine ⟨fi1.ci.nd, by simp, fun a ha b hb z => ?_⟩
        have : b = p := by simpa using hb
        subst this
        exact p1 (z ▸ ha)
      · rcases List.mem_append.mp ha with z | z
        · exact fl.ci.mC a z
        · have : a = p := by simpa using z
          subst this
          exact mp
    refine ⟨C1 ++ [p], fun a => M1 a ∧ a ∉ o1, ⟨fun a o h1 _ h3 => g1.keep a o h1 (fun z => z.elim) h3, ?_, fun a ha => ?_, fun a h => g1.fresh a h.1, fun a h1 h2 => ⟨g1.forn a h1 h2, fun z => ?_⟩, g1.ownd, g1.back⟩, ⟨ci2, fl.sl.mono hcat (fun _ _ _ e => e) (fun _ _ h _ => h) fun _ _ _ e => e, fl.od, fun a ha z => ?_, fl.mO⟩, .cell hlast⟩
    · obtain ⟨D1, e⟩ := g1.pre
      exact ⟨D1 ++ [p], by rw [e, List.append_assoc]⟩
    · rcases List.mem_append.mp ha with z | z
      · exact (g1.newc0 a z).imp id .inr
      · have ez : a = p := by simpa using z
        rw [ez]
        exact .inr (.inr p4)
    · obtain ⟨o, w2⟩ := fi.ci.tr a h1
      rw [(n2 a z).2.2.2] at w2
      cases w2
    · rcases List.mem_append.mp z with z | z
      · exact fl.oc a ha z
      · have : a = p := by simpa using z
        subst this
        exact p2 ha
def fCellCall (m : FS) (fs : AS) : ES := fun env st => (fs env st).bind fun x => (m x.1 x.2.2).bind fun y => match y.1 with
  | .own ds => if D.ncs (D.fzs ds) = true then some (.cell y.2.length, x.2.1, y.2 ++ [D.fzs ds]) else none
  | _ => none
end
section
variable {X : Cx} {k j : Nat} {ps : List Str} {x : Str} {sd : Stmt} {p pos : Pos} {e : Expr} {es : List Expr} {m : FS} {fs : AS}
theorem clc (c : Cal X.prog X.w X.K X.mg X.base x sd j ps m) (hr : Room k X.A) (hj : j ≤ k) (hgd : X.A.guards = some []) (hg : Gl X x) (ha : SZs X (e :: es) fs)
    (hdb : (x == ("__debug__" : Str)) = false := by decide) (he : starEach (e :: es) X.env = (false, eval e X.env) :: starEach es X.env := by rfl) (hpl : (backTo pos (starEach es X.env)).any (·.1) = false := by rfl) :
    SZ X (.Call (.Name x p) (e :: es) [] pos) (fCellCall m fs) := by
  obtain ⟨f, fd, F, em, b, G⟩ := c
  refine pe_weak (pe_callG G (hr.mono hj) hgd hg em F.kp b ha hdb he hpl) fun σ H Q ⟨C, O, M, env, st, d, env', st', fi, e, q⟩ => ?_
  unfold fCellCall at e
  rw [Option.bind_eq_some_iff] at e
  obtain ⟨⟨ds0, env1, st1⟩, e1, e⟩ := e
  rw [Option.bind_eq_some_iff] at e
  obtain ⟨⟨r, st2⟩, e2, e⟩ := e
  dsimp only at e e2
  split at e
  · rename_i ds
    split at e
    · rename_i hnc
      cases e
      refine ⟨C, O, M, env, st, ds0, env', st1, fi, e1, fun vs H1 C1 O1 M1 g1 fi1 rv1 => ⟨C1, M1, st1, ds0, .own ds, st2, fi1.ci, rv1, e2, fun v H2 M2 os g ci rv nd n => ?_⟩⟩
      have up : ∀ a, M1 a → M2 a := fun a h => g.forn a h (fun z => nomatch z)
      have g2 : Go False C1 O1 M1 H1 C1 O1 M2 H2 := ⟨fun a o h1 _ h3 => g.keep a o h1 (fun z => z.elim) h3, ⟨[], (List.append_nil _).symm⟩, fun _ h => .inl h, g.fresh, fun a h _ => up a h, fun _ h => .inl h, g.back⟩
      have f2 : FI X.K C1 O1 M2 H2 σ env' st2 := ⟨ci, fi1.sl.mono (fun _ _ e => e) (fun a o h e => g.keep a o (fun z => h (fi1.ci.mC a z)) (fun z => z.elim) e) (fun a o h e z => by
        rcases g.fresh a z with y | y
        · exact h y
        · rw [e] at y; cases y) fun a ha o e => g.keep a o (fi1.oc a ha) (fun z => z.elim) e, fi1.od, fi1.oc, fun a h => up a (fi1.mO a h)⟩
      obtain ⟨C3, M3, g3, f3, r3⟩ := cell_reg fi (g1.trans fi.ci.tr g2) f2 rv nd (fun a ha => ⟨fi1.noC (n a ha).2, fi1.noO (n a ha).2, (n a ha).1, g1.back a (n a ha).2⟩) hnc
      exact q v H2 C3 O1 M3 g3 f3 r3
    · cases e
  · cases e
end
end Pv

/-! # PvV7 -/
set_option Elab.async false
set_option linter.all false
set_option maxHeartbeats 1000000
/-! x is True, x is not True, of truths -/
namespace Pv
open PySem PySem.Spec PyProof.Rows L2
section
variable {X : Cx} {K : PySem.W.Frag}
theorem is_bb {M : Model} {A : Around} {E : Value → Shared → Prop} {s : Shared} {b c : Bool} {Q : Value → Shared → Prop} (h : Q (.bool (decide (b = c))) s) : wpAny M A (compareOp .Is (.bool b) (.bool c)) Q E s := by
  cases b <;> cases c <;> exact wpAny_of_eq rfl h
theorem isnot_bb {M : Model} {A : Around} {E : Value → Shared → Prop} {s : Shared} {b c : Bool} {Q : Value → Shared → Prop} (h : Q (.bool (!decide (b = c))) s) : wpAny M A (compareOp .IsNot (.bool b) (.bool c)) Q E s := by
  cases b <;> cases c <;> exact wpAny_of_eq rfl h
def rIsB : R2 := fun x y H Q => ∃ b c, x = .bl b ∧ y = .bl c ∧ Q (.bl (decide (b = c))) H
def rNotB : R2 := fun x y H Q => ∃ b c, x = .bl b ∧ y = .bl c ∧ Q (.bl (!decide (b = c))) H
theorem op_isB : OpR X (compareOp .Is) rIsB := by
  intro pins s σ H x y v u Q I rx ry h
  obtain ⟨b, c, rfl, rfl, q⟩ := h
  cases rx
  cases ry
  exact is_bb ⟨.bl _, H, I, rfl, q⟩
theorem op_notB : OpR X (compareOp .IsNot) rNotB := by
  intro pins s σ H x y v u Q I rx ry h
  obtain ⟨b, c, rfl, rfl, q⟩ := h
  cases rx
  cases ry
  exact isnot_bb ⟨.bl _, H, I, rfl, q⟩
def isBD (_ : Ms) (a b : D) : Option D := match a, b with
  | .bl x, .bl y => some (.bl (decide (x = y)))
  | _, _ => none
def notBD (_ : Ms) (a b : D) : Option D := match a, b with
  | .bl x, .bl y => some (.bl (!decide (x = y)))
  | _, _ => none
theorem ok_isB : OpOk K rIsB isBD := by
  intro C M H st v1 d1 o1 v2 d2 o2 res Q ci r1 r2 e q
  unfold isBD at e
  split at e
  · cases e
    cases r1
    cases r2
    exact ⟨_, _, rfl, rfl, q.val ci (.bl _)⟩
  · cases e
theorem ok_notB : OpOk K rNotB notBD := by
  intro C M H st v1 d1 o1 v2 d2 o2 res Q ci r1 r2 e q
  unfold notBD at e
  split at e
  · cases e
    cases r1
    cases r2
    exact ⟨_, _, rfl, rfl, q.val ci (.bl _)⟩
  · cases e
end
end Pv

/-! # PvM2 -/
set_option Elab.async false
set_option linter.all false
set_option maxHeartbeats 1000000
set_option maxRecDepth 100000
/-! zip of a list and a tuple, in either place -/
namespace Pv
open PySem PySem.Spec PyProof.Rows L2
section
def SqX (K : PySem.W.Frag) (k : Bool) (H : Hp) (a : Addr) (xs : List V) : Prop := match k with
  | true => SqL K H a xs
  | false => SqT K H a xs
def ItX (k : Bool) (h : Heap) (it a : Addr) (i : Nat) : Prop := match k with
  | true => h.IsListIter it a i
  | false => h.IsTupleIter it a i
def IsX (k : Bool) (h : Heap) (a : Addr) (items : Array Value) : Prop := match k with
  | true => h.IsList a items
  | false => h.IsTuple a items
def obX (k : Bool) (a : Addr) : Obj := match k with
  | true => { cls := .type "list_iterator", data := .fields #[.ref a, .int 0 0] }
  | false => { cls := .type "tuple_iterator", data := .fields #[.ref a, .int 0 0] }
theorem ItX.ex {k : Bool} {h : Heap} {it a : Addr} {i : Nat} (p : ItX k h it a i) : ∃ o, h.get? it = some o ∧ ∀ v, o.data ≠ .cell v := by
  cases k
  · obtain ⟨o, e, _, d⟩ := p
    exact ⟨o, e, fun v q => by rw [d] at q; cases q⟩
  · obtain ⟨o, e, _, d⟩ := p
    exact ⟨o, e, fun v q => by rw [d] at q; cases q⟩
theorem ItX.to {k : Bool} {h h' : Heap} {it a : Addr} {i : Nat} (p : ItX k h it a i) (e : ∀ o, h.get? it = some o → h'.get? it = some o) : ItX k h' it a i := by
  cases k
  · exact Heap.IsTupleIter.at (show h.IsTupleIter it a i from p) e
  · exact Heap.IsListIter.at (show h.IsListIter it a i from p) e
theorem IsX.to {k : Bool} {h h' : Heap} {a : Addr} {items : Array Value} (p : IsX k h a items) (e : ∀ o, h.get? a = some o → h'.get? a = some o) : IsX k h' a items := by
  cases k
  · exact Heap.IsTuple.at (show h.IsTuple a items from p) e
  · exact Heap.IsList.at (show h.IsList a items from p) e
theorem drawsX {prog : Program} {w : World} {A : Around} (hh : A.handled = none) (k : Bool) (it l : Addr) (hne : l ≠ it) (items : Array Value) :
    Draws prog w A it [it, l] items.size (fun i v => items[i]? = some v) (fun i h => ItX k h it l i ∧ IsX k h l items) := by
  cases k
  · exact Draws.tuple hh it l hne items
  · exact Draws.list hh it l hne items
/-- one that is at its end -/
theorem drawsE {prog : Program} {w : World} {A : Around} (hh : A.handled = none) (k : Bool) (it l : Addr) (items : Array Value) (i : Nat) (hx : items[i]? = none) :
    Draws prog w A it [it, l] i (fun _ _ => True) (fun j h => j = i ∧ ItX k h it l i ∧ IsX k h l items) where
  live := fun _ _ st => let ⟨o, ho, _⟩ := st.2.1.ex; ⟨o, ho⟩
  frame := fun _ _ _ st hk => ⟨st.1, st.2.1.to fun o e => hk it (by simp) o e, st.2.2.to fun o e => hk l (by simp) o e⟩
  item := fun j s Q E hj st hQ => absurd st.1 (Nat.ne_of_lt hj)
  done := fun s Q E st hE => by
    obtain ⟨_, p, q⟩ := st
    cases k
    · exact wpAny_nextOf_tuple_end hh (show s.heap.IsTupleIter it l i from p) (show s.heap.IsTuple l items from q) hx hE
    · exact wpAny_nextOf_list_end hh (show s.heap.IsListIter it l i from p) (show s.heap.IsList l items from q) hx hE
theorem begX (k : Bool) (l : Addr) (items : Array Value) : Begins (.ref l) (obX k l) fun h => IsX k h l items := by
  cases k
  · exact begins_tuple l items
  · exact begins_list l items
theorem sepX {z TI TO i1 i2 a b : Addr} (D : ZipApart z TI TO i1 i2 a b) : ZipSep2 z TI TO i1 i2 [i1, a] [i2, b] where
  TIz := D.TIz
  TOz := D.TOz
  TITO := D.TITO
  TIi1 := D.TIi1
  mem1 := by simp
  zf1 := by simp [D.i1z.symm, D.l1z.symm]
  Tf1 := by simp [D.TOi1, D.l1TO.symm]
  TIi2 := D.TIi2
  mem2 := by simp
  zf2 := by simp [D.i2z.symm, D.l2z.symm]
  Tf2 := by simp [D.TOi2, D.l2TO.symm]
  sep1_2 := by simp [D.i12, D.l2i1.symm]
  sep2_1 := by simp [D.i12.symm, D.l1i2.symm]
theorem inv_seqX {X : Cx} {pins : List (Addr × Obj)} {σ : L2.St} {H : Hp} {s : Shared} {a : Addr} {xs : List V} {k : Bool} (I : Inv X pins σ H s) (h : SqX X.K k H a xs) : ∃ its : List Value, Vals xs its ∧ IsX k s.heap a its.toArray ∧ a < s.heap.objs.size := by
  cases k
  · obtain ⟨its, rv, p, _⟩ := I.tuple (show SqT X.K H a xs from h)
    have p' : s.heap.IsTuple a its.toArray := p
    obtain ⟨o, ho, _⟩ := id p'
    exact ⟨its, rv, p', Heap.lt_size ho⟩
  · obtain ⟨its, rv, p, _⟩ := I.list (show SqL X.K H a xs from h)
    exact ⟨its, rv, p.isList, p.lt⟩
theorem inv_injX {X : Cx} {pins : List (Addr × Obj)} {σ : L2.St} {H : Hp} {s : Shared} {a : Addr} {xs ys : List V} {k : Bool} (I : Inv X pins σ H s) (h : SqX X.K k H a xs) (h2 : SqX X.K k H a ys) : xs = ys := by
  cases k
  · exact I.tuple_inj (show SqT X.K H a xs from h) (show SqT X.K H a ys from h2)
  · exact I.list_inj (show SqL X.K H a xs from h) (show SqL X.K H a ys from h2)
/-- the two at a and b as they stand at each turn, the items in new pairs -/
def ItzX (K : PySem.W.Frag) (k1 k2 : Bool) (a b : Addr) : It :=
  ⟨fun i H => ∃ (xs ys : List V) (x y : V), SqX K k1 H a xs ∧ SqX K k2 H b ys ∧ xs[i]? = some x ∧ ys[i]? = some y,
    fun i H v H' => ∃ T x y, v = .ref T ∧ H T = none ∧ H' = upd H T (.tup [x, y]) ∧ (∀ xs, SqX K k1 H a xs → xs[i]? = some x) ∧ ∀ ys, SqX K k2 H b ys → ys[i]? = some y,
    fun i H => ∃ xs ys : List V, SqX K k1 H a xs ∧ SqX K k2 H b ys ∧ (xs.length ≤ i ∨ ys.length ≤ i)⟩
theorem turn_zipX {P : Program} {w : World} {K : PySem.W.Frag} {elts : List Expr} {kk : Nat} {tpos : Pos} {k1 k2 : Bool} {a b z TI TO i1 i2 : Addr} (D : ZipApart z TI TO i1 i2 a b) :
    Turn P w K (.Tuple elts kk tpos) (ItzX K k1 k2 a b) [z, TI, TO, i1, i2] z (fun i h => IsZip h z TI TO .none ∧ IsPair h TI (.ref i1) (.ref i2) ∧ (∃ x y, IsPair h TO x y) ∧ ItX k1 h i1 a i ∧ ItX k2 h i2 b i) where
  mem := by simp
  obj := fun i h st c hc => by
    obtain ⟨hz, hTI, ⟨x, y, hTO⟩, h1, h2⟩ := st
    have e' : c = z ∨ c = TI ∨ c = TO ∨ c = i1 ∨ c = i2 := by simpa using hc
    rcases e' with q | q | q | q | q
    · rw [q]; exact ⟨_, hz, fun v q => nomatch q⟩
    · rw [q]; exact ⟨_, hTI, fun v q => nomatch q⟩
    · rw [q]; exact ⟨_, hTO, fun v q => nomatch q⟩
    · rw [q]; exact h1.ex
    · rw [q]; exact h2.ex
  keep := fun i h h' st k => by
    obtain ⟨hz, hTI, ⟨x, y, hTO⟩, h1, h2⟩ := st
    exact ⟨k z (by simp) _ hz, k TI (by simp) _ hTI, ⟨x, y, k TO (by simp) _ hTO⟩, h1.to fun o q => k i1 (by simp) o q, h2.to fun o q => k i2 (by simp) o q⟩
  item := by
    intro X hP hw hK hc i pins s σ H E I hf st hg
    subst hP hw hK
    obtain ⟨hz, hTI, ⟨x0, y0, hTO⟩, h1, h2⟩ := st
    obtain ⟨xs, ys, x, y, hqx, hqy, hx, hy⟩ := hg
    obtain ⟨its, rv, p, _⟩ := inv_seqX I hqx
    obtain ⟨its2, rv2, p2, _⟩ := inv_seqX I hqy
    obtain ⟨u, hu, ru⟩ := rv.get hx
    obtain ⟨u2, hu2, ru2⟩ := rv2.get hy
    have hzl : z < s.heap.objs.size := Heap.lt_size hz
    have hh := I.ok.hd hc
    have l1 : i < its.toArray.size := by
      have := (List.getElem?_eq_some_iff.mp hu).1
      simpa using this
    have l2 : i < its2.toArray.size := by
      have := (List.getElem?_eq_some_iff.mp hu2).1
      simpa using this
    refine wpAny_pyNext_zipD2_item (sepX D) (drawsX (prog := X.prog) (w := X.w) (A := X.A.in1) hh k1 i1 a D.l1i1 its.toArray) (drawsX (prog := X.prog) (w := X.w) (A := X.A.in1) hh k2 i2 b D.l2i2 its2.toArray) hz hTI hTO ⟨h1, p⟩ ⟨h2, p2⟩ l1 l2 fun v1 v2 h' tk e1 e2 z' TO' s1' s2' hT hsz hk => ?_
    have e1' : u = v1 := by
      have : its[i]? = some v1 := by simpa using e1
      rw [hu] at this
      exact Option.some.inj this
    have e2' : u2 = v2 := by
      have : its2[i]? = some v2 := by simpa using e2
      rw [hu2] at this
      exact Option.some.inj this
    subst e1' e2'
    refine ⟨_, rfl, wpAny_letOwnedTupleGo_zip (s := { s with heap := h', toks := tk }) z' fun h'' z'' sb => ?_⟩
    have hT2 : h''.get? s.heap.objs.size = some { cls := .type "tuple", data := .seq #[u, u2] } := (sb.2 _ (Nat.ne_of_gt hzl)).trans hT
    have new : ObjOk X.prog X.w (upd H s.heap.objs.size (.tup [x, y])) h'' s.heap.objs.size (.tup [x, y]) :=
      ⟨by show 2 ≤ sizeLine; decide, [u, u2], .cons ru (.cons ru2 .nil), ⟨_, hT2, rfl, _, rfl⟩⟩
    have I1 : Inv X pins σ (upd H s.heap.objs.size (.tup [x, y])) { s with heap := h'', toks := tk } :=
      I.turnedNew (t' := tk) (ch := [z, TI, TO, i1, i2]) (fun c o hb q => (sb.2 c (fun q' => hb (by simp [q']))).trans (hk c o (fun q' => hb (by simp [q'])) (fun q' => hb (by simp [q'])) (fun q' => hb (by simp [q'])) (fun q' => hb (by simp [q'])) q)) hf (Nat.le_refl _) new
    refine ⟨.ref s.heap.objs.size, _, I1, rfl, ⟨_, x, y, rfl, I.hok.fresh (Nat.le_refl _), rfl, fun l hl => by rw [inv_injX I hl hqx]; exact hx, fun l hl => by rw [inv_injX I hl hqy]; exact hy⟩, ⟨z'', ?_, ⟨u, u2, ?_⟩, ?_, ?_⟩, fun c hcm => ?_⟩
    · exact (sb.2 _ D.TIz).trans (hk _ _ D.TIz D.TITO D.TIi1 D.TIi2 hTI)
    · exact (sb.2 _ D.TOz).trans TO'
    · exact s1'.1.to fun o q => (sb.2 _ D.i1z).trans q
    · exact s2'.1.to fun o q => (sb.2 _ D.i2z).trans q
    · have hlt : c < s.heap.objs.size := by
        have e' : c = z ∨ c = TI ∨ c = TO ∨ c = i1 ∨ c = i2 := by simpa using hcm
        rcases e' with q | q | q | q | q
        · rw [q]; exact hzl
        · rw [q]; exact Heap.lt_size hTI
        · rw [q]; exact Heap.lt_size hTO
        · rw [q]; obtain ⟨_, e1, _⟩ := h1.ex; exact Heap.lt_size e1
        · rw [q]; obtain ⟨_, e2, _⟩ := h2.ex; exact Heap.lt_size e2
      rw [upd_ne (Nat.ne_of_lt hlt)]
      exact (hf c hcm).1
  done := by
    intro X hP hw hK hc i pins s σ H E I hf st hg
    subst hP hw hK
    obtain ⟨hz, hTI, ⟨x0, y0, hTO⟩, h1, h2⟩ := st
    obtain ⟨xs, ys, hqx, hqy, hend⟩ := hg
    obtain ⟨its, rv, p, _⟩ := inv_seqX I hqx
    obtain ⟨its2, rv2, p2, _⟩ := inv_seqX I hqy
    have l1 := rv.length
    have l2 := rv2.length
    have hh := I.ok.hd hc
    have fin : ∀ (h' : Heap) (tk : Nat), (∀ c o, c ≠ z → c ≠ TO → c ≠ i1 → c ≠ i2 → s.heap.get? c = some o → h'.get? c = some o) → Inv X pins σ H { s with heap := h', toks := tk } := fun h' tk hk =>
      I.turnedL (t' := tk) (ch := [z, TI, TO, i1, i2]) (fun c o hb q => hk c o (fun q' => hb (by simp [q'])) (fun q' => hb (by simp [q'])) (fun q' => hb (by simp [q'])) (fun q' => hb (by simp [q'])) q) hf
    by_cases e1 : i < its.toArray.size
    · have e2 : its2.toArray[i]? = none := by
        have : xs.length ≤ i ∨ ys.length ≤ i := hend
        simp at e1 ⊢
        omega
      exact wpAny_pyNext_zipD2_end (sepX D) (drawsX (prog := X.prog) (w := X.w) (A := X.A.in1) hh k1 i1 a D.l1i1 its.toArray) (drawsE (prog := X.prog) (w := X.w) (A := X.A.in1) hh k2 i2 b its2.toArray i e2) hz hTI hTO ⟨h1, p⟩ ⟨rfl, h2, p2⟩ (Nat.le_of_lt e1) (Nat.le_refl _) (.inr rfl) fun h' tk hk => ⟨rfl, fin h' tk hk⟩
    · have e1' : its.toArray[i]? = none := by
        simp at e1 ⊢
        omega
      by_cases e2 : i < its2.toArray.size
      · exact wpAny_pyNext_zipD2_end (sepX D) (drawsE (prog := X.prog) (w := X.w) (A := X.A.in1) hh k1 i1 a its.toArray i e1') (drawsX (prog := X.prog) (w := X.w) (A := X.A.in1) hh k2 i2 b D.l2i2 its2.toArray) hz hTI hTO ⟨rfl, h1, p⟩ ⟨h2, p2⟩ (Nat.le_refl _) (Nat.le_of_lt e2) (.inl rfl) fun h' tk hk => ⟨rfl, fin h' tk hk⟩
      · have e2' : its2.toArray[i]? = none := by
          simp at e2 ⊢
          omega
        exact wpAny_pyNext_zipD2_end (sepX D) (drawsE (prog := X.prog) (w := X.w) (A := X.A.in1) hh k1 i1 a its.toArray i e1') (drawsE (prog := X.prog) (w := X.w) (A := X.A.in1) hh k2 i2 b its2.toArray i e2') hz hTI hTO ⟨rfl, h1, p⟩ ⟨rfl, h2, p2⟩ (Nat.le_refl _) (Nat.le_refl _) (.inl rfl) fun h' tk hk => ⟨rfl, fin h' tk hk⟩
  self := fun A i s Q E st h => wpAny_pyIter_zip st.1 h
def iZipX (K : PySem.W.Frag) (ta : TA) : TI := fun σ H R => ta σ H fun vs H1 => ∃ k1 k2 a b xs ys, vs = [.ref a, .ref b] ∧ SqX K k1 H1 a xs ∧ SqX K k2 H1 b ys ∧ R (ItzX K k1 k2 a b) H1
theorem pi_zipX {X : Cx} {e e2 : Expr} {ta : TA} {p pos tpos : Pos} {elts : List Expr} {kk : Nat} (hg : Gl X "zip") (hm : X.mg "zip" = none) (ha : PA X [e, e2] ta)
    (hs : starEach [e, e2] X.env = (false, eval e X.env) :: starEach [e2] X.env := by rfl) (hpl : (backTo pos (starEach [e2] X.env)).any (·.1) = false := by rfl) :
    PI X (.Tuple elts kk tpos) (.Call (.Name "zip" p) [e, e2] [] pos) (iZipX X.K ta) := by
  refine ⟨fun pins s σ H R I h => ?_⟩
  refine Call_ (ld_blt I hg hm PyProof.Rows.boot_zip (PyProof.Rows.callWith_type1 (thn (ha.run pos pins s σ H _ I h) fun us s1 ⟨vs, H1, I1, r1, q1⟩ => ?_) hs hpl))
  obtain ⟨k1, k2, a, b, xs, ys, ex, hqx, hqy, q⟩ := q1
  subst ex
  cases r1 with
  | cons r rr =>
    cases rr with
    | cons r' rr =>
      cases rr
      cases r
      cases r'
      have fresh5 : ∀ c, c ∈ [s1.heap.objs.size + 4, s1.heap.objs.size + 2, s1.heap.objs.size + 3, s1.heap.objs.size, s1.heap.objs.size + 1] → FpOk X pins H1 c := fun c hcm => by
        have e' : c = s1.heap.objs.size + 4 ∨ c = s1.heap.objs.size + 2 ∨ c = s1.heap.objs.size + 3 ∨ c = s1.heap.objs.size ∨ c = s1.heap.objs.size + 1 := by simpa using hcm
        have hle : s1.heap.objs.size ≤ c := by
          rcases e' with z | z | z | z | z
          · rw [z]; exact Nat.le_add_right _ _
          · rw [z]; exact Nat.le_add_right _ _
          · rw [z]; exact Nat.le_add_right _ _
          · rw [z]; exact Nat.le_refl _
          · rw [z]; exact Nat.le_add_right _ _
        exact I1.fpOk hle (I1.hok.fresh hle)
      obtain ⟨its, rv, p1, lt1⟩ := inv_seqX I1 hqx
      obtain ⟨its2, rv2, p2, lt2⟩ := inv_seqX I1 hqy
      refine zip_begins2 (begX k1 a its.toArray) (begX k2 b its2.toArray) p1 p2 fun h' hz hTI hTO h1 h2 hsz hk => wpAny_pyIter_zip hz ?_
      have I2 : Inv X pins σ H1 { s1 with heap := h' } := I1.kept (t' := s1.toks) hk
      have g1 : ItX k1 h' s1.heap.objs.size a 0 := by
        cases k1
        · exact ⟨_, h1, rfl, rfl⟩
        · exact ⟨_, h1, rfl, rfl⟩
      have g2 : ItX k2 h' (s1.heap.objs.size + 1) b 0 := by
        cases k2
        · exact ⟨_, h2, rfl, rfl⟩
        · exact ⟨_, h2, rfl, rfl⟩
      exact ⟨s1.heap.objs.size + 4, [s1.heap.objs.size + 4, s1.heap.objs.size + 2, s1.heap.objs.size + 3, s1.heap.objs.size, s1.heap.objs.size + 1], _, _, H1, rfl, I2, turn_zipX (PySem.W.ktu_apart s1.heap.objs.size a b lt1 lt2), ⟨hz, hTI, ⟨_, _, hTO⟩, g1, g2⟩, fresh5, q⟩
end
section
variable {X : Cx} {K : PySem.W.Frag} {C O : List Addr} {M : Addr → Prop} {H : Hp} {st : Ms} {v v1 v2 : V} {d d1 d2 : D} {o o1 o2 os : List Addr} {Q : VK} {vs : List V} {σ : L2.St} {env env' : Env} {tg e a b c : Expr} {es : List Expr} {fs : AS} {f f1 f2 : ES} {p pos tpos : Pos}
theorem itzX_ok {k1 k2 : Bool} {a b : Addr} {xs ys : List V} {l m : List D} (hC : ∀ p ∈ C, M p) (hO : ∀ p ∈ O, M p) (h : ∀ C1 O1 M1 H1, Go True C O M H C1 O1 M1 H1 → SqX K k1 H1 a xs ∧ SqX K k2 H1 b ys) (r : RVs K C M H xs l []) (r' : RVs K C M H ys m []) : ItOk K (ItzX K k1 k2 a b) C O M (zipD l m) H := fun C1 O1 M1 H1 g t i => by
  have s1 : RVs K C1 M1 H1 xs l [] := g.rvs0 hC hO r
  have s2 : RVs K C1 M1 H1 ys m [] := g.rvs0 hC hO r'
  obtain ⟨q1, q2⟩ := h C1 O1 M1 H1 g
  refine ⟨fun hl => ⟨xs, ys, q1, q2, ?_⟩, fun z e => ?_⟩
  · unfold zipD at hl
    rw [List.length_zipWith] at hl
    rw [s1.len, s2.len]
    omega
  · obtain ⟨x, y, e1, e2, rfl⟩ := zip_at e
    obtain ⟨v, e3, rv⟩ := s1.get0 e1
    obtain ⟨w, e4, rw⟩ := s2.get0 e2
    refine ⟨⟨xs, ys, v, w, q1, q2, e3, e4⟩, fun u H2 hy => ?_⟩
    obtain ⟨T, x', y', rfl, hT, rfl, h1, h2⟩ := hy
    have z1 := (h1 xs q1).symm.trans e3
    have z2 := (h2 ys q2).symm.trans e4
    cases z1
    cases z2
    exact pair_ok t hT rv rw
def seqX : D → Option (List D)
  | .tup l => some l
  | .lst l => some l
  | _ => none
/-- a value that can be walked, its kind and what stands in it -/
theorem rv_seqX {l : List D} (hC : ∀ p ∈ C, M p) (hO : ∀ p ∈ O, M p) (r : RV K C M H v d []) (e : seqX d = some l) : ∃ k a xs, v = .ref a ∧ RVs K C M H xs l [] ∧ ∀ C1 O1 M1 H1, Go True C O M H C1 O1 M1 H1 → SqX K k H1 a xs := by
  generalize hz : ([] : List Addr) = z at r
  cases r with
  | @tup p xs _ _ h r =>
    subst hz
    cases e
    exact ⟨false, p, xs, rfl, r, fun C1 O1 M1 H1 g => tr_keep g hC hO h⟩
  | @lst p xs _ h r =>
    cases e
    exact ⟨true, p, xs, rfl, r, fun C1 O1 M1 H1 g => SqL.of (go_lr g hC hO h.1 h.2)⟩
  | _ => cases e
def wZipX (fs : AS) : WS := fun env st => (fs env st).bind fun x => match x.1 with
  | [a, b] => (seqX a).bind fun l => (seqX b).map fun m => (zipD l m, x.2)
  | _ => none
theorem si_zipX {elts : List Expr} {kk : Nat} (hg : Gl X "zip") (hm : X.mg "zip" = none) (ha : SZs X [a, b] fs) (hs : starEach [a, b] X.env = (false, eval a X.env) :: starEach [b] X.env := by rfl) (hpl : (backTo pos (starEach [b] X.env)).any (·.1) = false := by rfl) :
    SI X (.Tuple elts kk tpos) (.Call (.Name "zip" p) [a, b] [] pos) (wZipX fs) := pi_weak (pi_zipX hg hm ha hs hpl) fun σ H R ⟨C, O, M, env, st, ds, env', st', fi, e, q⟩ => by
  unfold wZipX at e
  rw [Option.bind_eq_some_iff] at e
  obtain ⟨⟨a, env1, st1⟩, e1, e⟩ := e
  dsimp only at e
  split at e
  · rename_i d1 d2
    rw [Option.bind_eq_some_iff] at e
    obtain ⟨l, e2, e⟩ := e
    rw [Option.map_eq_some_iff] at e
    obtain ⟨m, e3, e⟩ := e
    cases e
    refine ⟨C, O, M, env, st, _, env', st', fi, e1, fun vs H1 C1 O1 M1 g1 fi1 r1 => ?_⟩
    obtain ⟨v, w, rfl, r9, r8⟩ := rvs_two0 r1
    obtain ⟨k1, p1, xs, rfl, r, h1⟩ := rv_seqX fi1.ci.mC fi1.mO r9 e2
    obtain ⟨k2, p2, ys, rfl, r2, h2⟩ := rv_seqX fi1.ci.mC fi1.mO r8 e3
    exact ⟨k1, k2, p1, p2, xs, ys, rfl, h1 _ _ _ _ .refl, h2 _ _ _ _ .refl, q _ H1 C1 O1 M1 g1 fi1 (itzX_ok fi1.ci.mC fi1.mO (fun C2 O2 M2 H2 g2 => ⟨h1 _ _ _ _ g2, h2 _ _ _ _ g2⟩) r r2)⟩
  · cases e
end
end Pv

/-! # PvU2 -/
set_option Elab.async false
set_option linter.all false
set_option maxHeartbeats 1000000
/-! sum of a tuple too -/
namespace Pv
open PySem PySem.Spec PyProof.Rows L2
section
variable {prog : Program} {w : World} {A : Around} {E : Value → Shared → Prop} {s : Shared} {l : Addr} {xs : Array (Int × Tok)} {its : List Value} {ns : List Int} {Q : Value → Shared → Prop}
theorem sum_intTupleG (hh : A.handled = none) (ht : s.heap.IsTuple l (intItems xs))
    (h : ∀ h' tk t', (∀ b o, s.heap.get? b = some o → h'.get? b = some o) → Q (.int (preSum (numAt xs) xs.size) t') { s with heap := h', toks := tk }) :
    wpAny (model prog w) A (call (.builtin "sum") [.ref l]) Q E s := by
  have hlt : l < s.heap.objs.size := by obtain ⟨_, e, _⟩ := ht; exact Heap.lt_size e
  refine call_sum_walkG (wpAny_pyIter_tuple ht ?_)
  refine ⟨_, [s.heap.objs.size, l], [s.heap.objs.size], _, _, _, numAt xs, rfl, Walks.tuple (A := A.in1) hh _ l (Nat.ne_of_lt hlt) (intItems xs), ⟨⟨_, Heap.get?_push_size _ rfl, rfl, rfl⟩, ht.push _⟩, fun b hb => ?_, (fun _ _ => intItems_at), fun h' tk t' hk => ?_⟩
  · show b < (s.heap.push _).objs.size
    rw [Heap.size_push]
    rcases List.mem_cons.mp hb with rfl | hb
    · exact Nat.lt_succ_self _
    · rcases List.mem_cons.mp hb with rfl | hb
      · exact Nat.lt_succ_of_lt hlt
      · cases hb
  · have := h h' tk t' fun b o e => by
      refine hk b o (fun hm => ?_) (Heap.get?_push_of_some _ e)
      rcases List.mem_cons.mp hm with e1 | hm
      · exact absurd (e1 ▸ Heap.lt_size e) (Nat.lt_irrefl _)
      · cases hm
    simpa [intItems] using this
theorem sum_rawT (hh : A.handled = none) (hl : s.heap.IsTuple l its.toArray) (hi : IntsAre its ns)
    (h : ∀ h' tk t', (∀ b o, s.heap.get? b = some o → h'.get? b = some o) → Q (.int ns.sum t') { s with heap := h', toks := tk }) : wpAny (model prog w) A (call (.builtin "sum") [.ref l]) Q E s := by
  obtain ⟨xs, e⟩ := hi.allInts.items
  have hn : numsOf (intItems xs).toList = ns := by rw [← e]; exact hi.numsOf
  rw [nums_intItems] at hn
  rw [e] at hl
  refine sum_intTupleG hh hl fun h' tk t' hk => ?_
  have := h h' tk t' hk
  rw [preSum_eq, List.take_of_length_le (by simp), hn]; exact this
end
section
variable {X : Cx} {K : PySem.W.Frag} {C O C1 O1 C2 O2 : List Addr} {M M1 M2 : Addr → Prop} {H H1 H2 : Hp} {st st1 st2 : Ms} {v v1 v2 : V} {d d1 d2 : D} {o o1 o2 os : List Addr} {Q : VK} {vs : List V} {σ : L2.St} {env env1 env2 : Env} {fe fk : ES}
def rSumT (K : PySem.W.Frag) : List V → Hp → VK → Prop := fun vs H Q => ∃ (a : Addr) (ns : List Int), vs = [V.ref a] ∧ SqT K H a (ns.map V.int) ∧ Q (.int ns.sum) H
theorem cr_sumT (hc : X.calm = true) : CallR X (.builtin "sum") (rSumT X.K) := by
  intro pins s σ H vs us Q I r h
  obtain ⟨a, ns, rfl, hs, q⟩ := h
  obtain ⟨its, rv, hl, _⟩ := I.tuple hs
  obtain ⟨u, rfl, rv1⟩ := Vals.one r
  cases rv1
  exact sum_rawT (I.ok.hd hc) (show s.heap.IsTuple a its.toArray from hl) rv.ints fun h' tk t' hk => ⟨.int _, H, I.kept hk, ⟨_, rfl⟩, q⟩
def sum2D (st : Ms) (ds : List D) : Option D := match ds with
  | [.tup l] => if D.ofs l = true then (intsOf l).map fun ns => .int ns.sum else none
  | ds => sumD st ds
theorem ok_sum2 : ClOk K (fun xs H Q => rSum K xs H Q ∨ rSumT K xs H Q) sum2D := by
  intro C M H st vs ds os res Q ci r e q
  unfold sum2D at e
  split at e
  · rename_i l
    split at e
    · rename_i hc
      rw [Option.map_eq_some_iff] at e
      obtain ⟨ns, e2, rfl⟩ := e
      obtain ⟨v, rfl, r9⟩ := rvs_one r
      obtain ⟨p, items, rfl, h1, r1⟩ := ti_ok r9 hc
      rw [intsOf_ok e2] at r1
      rw [rvs_ints r1] at h1
      exact .inr ⟨p, ns, rfl, h1, q.val ci (.int _)⟩
    · cases e
  · exact .inl (ok_sum C M H st vs _ os res Q ci r e q)
theorem b_sum2 {a : Expr} {f1 : ES} {p pos : Pos} (hc : X.calm = true) (hg : Gl X "sum") (hm : X.mg "sum" = none) (ha : SP X a f1) (he : starEach [a] X.env = (false, eval a X.env) :: starEach [] X.env := by rfl) : SE X (.Call (.Name "sum" p) [a] [] pos) (fCl sum2D (aCons f1 aNil)) :=
  se_clB ((cr_sum hc).or (cr_sumT hc)) ok_sum2 hg hm bt_sum (sps_cons ha sps_nil he) (by decide) (by decide) he
end
end Pv

/-! # PvJ2 -/
set_option Elab.async false
set_option linter.all false
set_option maxHeartbeats 4000000
set_option maxRecDepth 100000
/-! tuple * 1 is the tuple itself -/
namespace Pv
open PySem PySem.Spec PyProof.Rows L2
theorem tuple_mul1 (l : Addr) (items : Array Value) (n : Nat) (dd : Option Addr) (sl : Array (Option Value)) (u : Tok) :
    Meets (Builtin.«tuple.__mul__» ⟨[.ref l, .int 1 u], []⟩) (fun _ R s => s.heap.get? l = some { cls := .type "tuple", dict := dd, data := .seq items n, slots := sl } ∧ R (.ok (.ret (Value.ref l))) s) :=
  .of_wp fun prog w A R s h => by
    obtain ⟨hp, g, d, tk, os⟩ := s
    obtain ⟨hl, h⟩ := h
    have f1 := AutoSeq1.idx_int
    wp_walk using wpAny_loadPart' hl
    exact ⟨_, rfl, h⟩
section
variable {X : Cx} {K : PySem.W.Frag} {C O C1 O1 C2 O2 : List Addr} {M M1 M2 : Addr → Prop} {H H1 H2 : Hp} {st st1 st2 : Ms} {v v1 v2 : V} {d d1 d2 : D} {o o1 o2 os : List Addr} {Q : VK} {vs : List V} {σ : L2.St} {env env1 env2 : Env} {fe fk : ES}
def rOneT (K : PySem.W.Frag) : R2 := fun x y H Q => ∃ l xs, x = .ref l ∧ y = .int 1 ∧ SqT K H l xs ∧ Q (.ref l) H
theorem op_oneT : OpR X (binaryOp .Mult) (rOneT X.K) := by
  intro pins s σ H x y v u Q I rx ry h
  obtain ⟨l, xs, rfl, rfl, hT, q⟩ := h
  cases rx
  obtain ⟨t, rfl⟩ := ry
  obtain ⟨its, r, ⟨⟨cls, dd, data, sl⟩, ho, hc, n, hd⟩, hs⟩ := I.tuple hT
  simp only at hc hd
  subst hc hd
  refine wpAny_binaryOp_repeat_ref (T := "tuple") (U := "int") (by decide) ⟨_, ho, rfl⟩ (fun s' => typeIs_int s' 1 t) noFill_tuple_mul F.fills_int_mul F.slot_int_rmul repeat_tuple F.slot_int_index.lookup
    (call_meets F.slot_int_rmul (typeIs_int s 1 t) F.entry_int_rmul (F.args_int_rmul_2 _ _) (int_rmul_tuple 1 t l its.toArray n dd sl)
      ⟨ho, rfl, ⟨_, ho, rfl⟩, call_meets F.slot_tuple_mul ⟨_, ho, rfl⟩ F.entry_tuple_mul (F.args_tuple_mul_2 _ _) (tuple_mul1 l its.toArray n dd sl t) ⟨ho, ?_⟩⟩)
  exact ⟨.ref l, H, I, rfl, q⟩
def mul2D (st : Ms) (a b : D) : Option D := match a, b with
  | .tup l, .int 1 => if D.ofs l = true then some (.tup l) else none
  | a, b => mulD st a b
theorem or_mul2 : OpR X (binaryOp .Mult) (fun x y H Q => rMul3 X.K x y H Q ∨ rOneT X.K x y H Q) := or_mul.or op_oneT
theorem ok_mul2 : OpOk K (fun x y H Q => rMul3 K x y H Q ∨ rOneT K x y H Q) mul2D := by
  intro C M H st v1 d1 o1 v2 d2 o2 res Q ci r1 r2 e q
  unfold mul2D at e
  split at e
  · rename_i l
    split at e
    · rename_i hc
      cases e
      cases r2
      have r1' := r1
      obtain ⟨p, xs, rfl, t1, s1⟩ := ti_ok r1 hc
      refine .inr ⟨p, xs, rfl, rfl, t1, ?_⟩
      obtain rfl := RV.of r1 (show (D.tup l).of = true by simpa only [D.of] using hc)
      exact q.val ci r1
    · cases e
  · exact .inl (ok_mul C M H st v1 _ o1 v2 _ o2 res Q ci r1 r2 e q)
end
end Pv

/-! # PvB2 -/
set_option Elab.async false
set_option linter.all false
set_option maxHeartbeats 1000000
/-! a value without places: what was lent for it is owned again -/
namespace Pv
open PySem PySem.Spec PyProof.Rows L2
section
variable {X : Cx} {K : PySem.W.Frag} {C C' O O' O0 : List Addr} {M M' : Addr → Prop} {H H' : Hp} {st st' : Ms} {σ : L2.St} {env env' : Env} {e : Expr} {f : ES}
theorem RSl.go (g : Go False C O M H C' O' M' H') (hC : ∀ p ∈ C, M p) : ∀ {σ : L2.St} {env : Env} {O0 : List Addr}, RSl K C M H σ env O0 → (∀ a ∈ O0, a ∉ C) → RSl K C' M' H' σ env O0
  | _, _, _, .nil, _ => .nil
  | _, _, _, .no r, n => .no (RSl.go g hC r n)
  | _, _, _, .so h r, n => .so (g.rv hC h fun a ha => n a (List.mem_append_left _ ha)) (RSl.go g hC r fun a ha => n a (List.mem_append_right _ ha))
theorem flat_rv {v : V} {d : D} {os : List Addr} {C2 : List Addr} {M2 : Addr → Prop} {H2 : Hp} (h : flatB d = true) (r : RV K C M H v d os) : os = [] ∧ RV K C2 M2 H2 v d [] := by
  cases r <;> first | (cases h; done) | skip
  · exact ⟨rfl, .non⟩
  · exact ⟨rfl, .bl _⟩
  · exact ⟨rfl, .int _⟩
  · exact ⟨rfl, .str _⟩
theorem flat_rvs {C2 : List Addr} {M2 : Addr → Prop} {H2 : Hp} : ∀ {vs : List V} {ds : List D} {os : List Addr}, ds.all flatB = true → RVs K C M H vs ds os → RVs K C2 M2 H2 vs ds []
  | _, _, _, _, .nil => .nil
  | _, _, _, h, .cons r rs => by
    rw [List.all_cons, Bool.and_eq_true] at h
    exact .cons0 (flat_rv h.1 r).2 (flat_rvs h.2 rs)
def flatS (st : Ms) : Bool := st.all fun ds => ds.all flatB
def fRe (f : ES) : ES := fun env st => (f env st).bind fun x => if flatB x.1 = true ∧ flatS x.2.2 = true then some (x.1, env, x.2.2) else none
theorem se_re (h : SE X e f) : SE X e (fRe f) := pe_weak h fun σ H Q ⟨C, O, M, env, st, d, env', st', fi, e, q⟩ => by
  unfold fRe at e
  rw [Option.bind_eq_some_iff] at e
  obtain ⟨⟨a, env1, st1⟩, e1, e⟩ := e
  dsimp only at e
  split at e
  · rename_i hc
    cases e
    refine ⟨C, O, M, env, st, _, env1, _, fi, e1, fun v H' C' O' M' os g fi' r hn ho => ?_⟩
    obtain ⟨rfl, r2⟩ := flat_rv (C2 := C') (M2 := fun a => M' a ∨ a ∈ O) (H2 := H') hc.1 r
    have g2 : Go False C O M H C' O (fun a => M' a ∨ a ∈ O) H' := ⟨g.keep, g.pre, g.newc, fun a ha => ha.elim (g.fresh a) fun z => .inl (fi.mO a z), fun a h1 h2 => .inl (g.forn a h1 h2), fun a ha => .inl ha, g.back⟩
    have keepO : ∀ a ∈ O, ∃ o, H a = some o ∧ H' a = some o := fun a ha => by
      obtain ⟨o, eo⟩ := fi.ci.tr a (fi.mO a ha)
      exact ⟨o, eo, g.keep a o (fi.oc a ha) (fun z => z.elim) eo⟩
    refine q v H' C' O (fun a => M' a ∨ a ∈ O) [] g2 ⟨⟨fi'.ci.len, fun i ds p h1 h2 => ?_, fi'.ci.nd, fun p hp => .inl (fi'.ci.mC p hp), fun p hp => ?_⟩, ?_, fi.od, fun a ha hz => ?_, fun a ha => .inr ha⟩ r2 .nil fun a ha => nomatch ha
    · obtain ⟨xs, e2, rs⟩ := fi'.ci.at_ i ds p h1 h2
      have hf : ds.all flatB = true := by
        have := hc.2
        unfold flatS at this
        rw [List.all_eq_true] at this
        exact this ds (List.mem_of_getElem? h1)
      exact ⟨xs, e2, flat_rvs hf rs⟩
    · rcases hp with hp | hp
      · exact fi'.ci.tr p hp
      · obtain ⟨o, _, e2⟩ := keepO p hp
        exact ⟨o, e2⟩
    · exact RSl.go g2 fi.ci.mC fi.sl fi.oc
    · obtain ⟨o, e2, _⟩ := keepO a ha
      rcases g.newc0 a hz with z | z
      · exact fi.oc a ha z
      · rw [e2] at z; cases z
  · cases e
end
end Pv

/-! # PvS2 -/
set_option Elab.async false
set_option linter.all false
set_option maxHeartbeats 4000000
set_option maxRecDepth 100000
/-! sorted(set(xs)) of a list of ints -/
namespace Pv
open PySem PySem.Spec PyProof.Rows L2
section
variable {P : Program} {w : World} {A : Around} {E : Value → Shared → Prop} {s : Shared}
/-- a new set -/
abbrev nS (w : World) : Obj := { cls := .type "set", dict := none, data := .set #[] 0 (.fresh 0 0 (!w.params.followText "set-order")) }
/-- set of a list of ints: it can be walked -/
theorem set_listI {l : Addr} {items : Array Value} (ns : List Int) {Q : Value → Shared → Prop} (hh : A.handled = none) (hl : s.heap.IsList l items) (hit : IntsAre items.toList ns) (hb : ns.length + 1 < scanBound)
    (h : ∀ (h' : Heap) (tk c : Nat), SetR w h' s.heap.objs.size (fun j => decide (j ∈ ns)) c → (∀ b o, s.heap.get? b = some o → h'.get? b = some o) → Q (.ref s.heap.objs.size) { s with heap := h', toks := tk }) :
    wpAny (model P w) A (call (.type "set") [.ref l]) Q E s := by
  have hsz : items.size = ns.length := by
    have q := IntsAre.length hit
    rwa [Array.length_toList] at q
  have hlS : l < s.heap.objs.size := by obtain ⟨o, e, _⟩ := hl; exact Heap.lt_size e
  obtain ⟨c, tl, hmro⟩ := F.called_set.mro
  have hmade := F.called_set.made
  have hsub := F.called_set.sub
  refine wpAny_call (codeAny_of_tree ?_)
  show wpAny _ _ (callAny (.type "set") _) _ _ _
  refine wpAny_pure ⟨Code.quiet_builtin _ (by decide +kernel), codeAny_builtin F.entry_type_call ?_⟩
  rw [Around.under_plain (weight_type_call_type "set" [.ref l] []) rfl]
  have n1 := F.called_set.notType
  have n2 := F.called_set.canCreate
  have n3 := F.typeCall_set_1 (.ref l)
  repeat (any_goals (first | assumption | wp_step))
  refine codeAny_mono (code_set_led1 (.ref l) (E := E) (Q₁ := fun obj s₁ => obj = .ref s.heap.objs.size ∧ s₁ = { s with heap := s.heap.push (nS w) }) ⟨rfl, rfl⟩) fun r s₁ hr => ?_
  cases r with
  | error e => exact hr
  | ok fl =>
    cases fl with
    | ret obj =>
      obtain ⟨rfl, rfl⟩ := hr
      have hS : (s.heap.push (nS w)).get? s.heap.objs.size = some (nS w) := Heap.get?_push_size _ rfl
      have hT : Shared.TypeIs { s with heap := s.heap.push (nS w) } (.ref s.heap.objs.size) "set" := ⟨_, hS, rfl⟩
      have i1 := F.called_set.init.lookup
      have i2 := F.called_set.init.bind (.ref s.heap.objs.size)
      repeat (any_goals (first | assumption | wp_step))
      refine codeAny_mono (codeAny_call_builtin (R := wants (fun r s₂ => r = .none ∧ ∃ h' tk c, s₂ = { s with heap := h', toks := tk } ∧ SetR w h' s.heap.objs.size (fun j => decide (j ∈ ns)) c ∧ (∀ b o, s.heap.get? b = some o → h'.get? b = some o)) E) F.called_set.init.plain F.entry_set_init (check_set_init_1 hT ?_)) fun r₂ s₂ hr₂ => ?_
      · have hl1 : (s.heap.push (nS w)).IsList l items := hl.push _
        obtain ⟨⟨ocls, odict, odata, oslots⟩, hol, hcl, nl, hdl⟩ := id hl1
        simp only at hcl hdl
        subst hcl; subst hdl
        have s1 := F.sub_list_set
        have s2 := F.sub_list_frozenset
        have s3 : (Value.type "list" == Value.type "dict") = false := by decide
        unfold Builtin.«set.__init__» noKeywords Builtin.Frozenset.updateFrom
        generalize hPI : pyIter = PI
        wp_walk
        subst hPI
        refine wpAny_pyIter_list hl1 ?_
        refine wpAny_bind (wpAny_runValue ?_)
        have h3 : A.in1.in1.in1.handled = none := by simp [hh]
        have z1 : (s.heap.push (nS w)).objs.size = s.heap.objs.size + 1 := Heap.size_push ..
        have neI : l ≠ (s.heap.push (nS w)).objs.size := by rw [z1]; exact Nat.ne_of_lt (Nat.lt_succ_of_lt hlS)
        have nf : s.heap.objs.size ∉ [(s.heap.push (nS w)).objs.size, l] := by
          rw [z1]
          simp only [List.mem_cons, List.not_mem_nil, or_false, not_or]
          exact ⟨Nat.ne_of_lt (Nat.lt_succ_self _), Nat.ne_of_gt hlS⟩
        have val : ∀ (i : Nat) (v : Value), items[i]? = some v → ∃ k t, ns[i]? = some k ∧ v = .int k t := fun i v hv => by
          have hi : i < ns.length := by rw [← hsz]; exact (Array.getElem?_eq_some_iff.mp hv).1
          obtain ⟨t, e⟩ := PyProof.Rows.IntsAre.int_at hit i v (by rw [Array.getElem?_toList]; exact hv)
          refine ⟨ns[i], t, List.getElem?_eq_getElem hi, ?_⟩
          rw [e, List.getD_eq_getElem?_getD, List.getElem?_eq_getElem hi]
          rfl
        refine set_update_ints ((Walks.list h3 _ l neI items).toS) s.heap.objs.size nf ns hsz hb val (items.size - 0) 0 _ (by omega) (Nat.zero_le _) ⟨⟨_, Heap.get?_push_size _ rfl, rfl, rfl⟩, hl1.push _⟩ ⟨0, Nat.le_refl 0, setR_new_at (Heap.get?_push_of_some _ hS)⟩ fun s' c' hm hc' hS' => ?_
        obtain ⟨h', g2, d', tk', os'⟩ := s'
        have eg : g2 = s.gens := hm.gens
        have ed : d' = s.drawn := hm.drawn
        have eo : os' = s.os := hm.os
        subst eg; subst ed; subst eo
        show wpAny _ _ _ _ _ _
        refine wpAny_pure ?_
        show wpAny _ _ (ret Value.none) _ _ _
        refine wpAny_pure ⟨rfl, h', tk', c', rfl, hS', fun b o e => ?_⟩
        have b0 : b < s.heap.objs.size := Heap.lt_size e
        refine hm.heap b o ?_ (Heap.get?_push_of_some _ (Heap.get?_push_of_some _ e))
        simp only [List.mem_cons, List.not_mem_nil, or_false, not_or]
        exact ⟨Nat.ne_of_lt b0, by rw [z1]; exact Nat.ne_of_lt (Nat.lt_succ_of_lt b0)⟩
      · cases r₂ with
        | error e => exact hr₂
        | ok fl₂ =>
          cases fl₂ with
          | ret r =>
            obtain ⟨rfl, h', tk, c', rfl, hS', hk'⟩ := hr₂
            repeat (any_goals (first | assumption | wp_step))
            exact h _ _ _ hS' hk'
          | _ => exact hr₂.elim
    | _ => exact hr.elim
end
end Pv

/-! # PvS3 -/
set_option Elab.async false
set_option linter.all false
set_option maxHeartbeats 1000000
set_option maxRecDepth 100000
/-! sorted(set(xs)), II -/
namespace Pv
open PySem PySem.Spec PyProof.Rows L2
/-- the ints, each once, going up -/
def insU (x : Int) : List Int → List Int
  | [] => [x]
  | y :: r => if x < y then x :: y :: r else if x = y then y :: r else y :: insU x r
def sortU (ns : List Int) : List Int := ns.foldr insU []
theorem mem_insU {x z : Int} : ∀ {l : List Int}, z ∈ insU x l ↔ z = x ∨ z ∈ l
  | [] => by simp [insU]
  | y :: r => by
    unfold insU
    split
    · simp
    · split
      · rename_i h1 h2
        subst h2
        simp
      · simp [mem_insU (l := r)]
        constructor
        · rintro (h | h | h)
          · exact .inr (.inl h)
          · exact .inl h
          · exact .inr (.inr h)
        · rintro (h | h | h)
          · exact .inr (.inl h)
          · exact .inl h
          · exact .inr (.inr h)
theorem mem_sortU {z : Int} : ∀ {ns : List Int}, z ∈ sortU ns ↔ z ∈ ns
  | [] => by simp [sortU]
  | x :: ns => by
    have ih := mem_sortU (z := z) (ns := ns)
    unfold sortU at ih ⊢
    rw [List.foldr_cons, mem_insU, ih, List.mem_cons]
theorem pw_insU {x : Int} : ∀ {l : List Int}, l.Pairwise (· < ·) → (insU x l).Pairwise (· < ·)
  | [], _ => by simp [insU]
  | y :: r, h => by
    obtain ⟨h1, h2⟩ := List.pairwise_cons.mp h
    unfold insU
    split
    · rename_i hx
      refine List.pairwise_cons.mpr ⟨fun z hz => ?_, h⟩
      rcases List.mem_cons.mp hz with rfl | hz
      · exact hx
      · exact Int.lt_trans hx (h1 z hz)
    · split
      · exact h
      · rename_i a b
        refine List.pairwise_cons.mpr ⟨fun z hz => ?_, pw_insU h2⟩
        rcases mem_insU.mp hz with rfl | hz
        · omega
        · exact h1 z hz
theorem pw_sortU : ∀ {ns : List Int}, (sortU ns).Pairwise (· < ·)
  | [] => by simp [sortU]
  | x :: ns => by
    have ih := pw_sortU (ns := ns)
    unfold sortU at ih ⊢
    exact pw_insU ih
theorem pw_uniq : ∀ {l m : List Int}, l.Pairwise (· < ·) → m.Pairwise (· < ·) → (∀ z, z ∈ l ↔ z ∈ m) → l = m
  | [], [], _, _, _ => rfl
  | [], y :: m, _, _, h => absurd ((h y).mpr List.mem_cons_self) (by simp)
  | x :: l, [], _, _, h => absurd ((h x).mp List.mem_cons_self) (by simp)
  | x :: l, y :: m, hl, hm, h => by
    obtain ⟨a1, a2⟩ := List.pairwise_cons.mp hl
    obtain ⟨b1, b2⟩ := List.pairwise_cons.mp hm
    have e : x = y := by
      have h1 := (h x).mp List.mem_cons_self
      have h2 := (h y).mpr List.mem_cons_self
      rcases List.mem_cons.mp h1 with h1 | h1
      · exact h1
      · rcases List.mem_cons.mp h2 with h2 | h2
        · exact h2.symm
        · have := b1 x h1; have := a1 y h2; omega
    subst e
    rw [pw_uniq a2 b2 fun z => ?_]
    constructor
    · intro hz
      rcases List.mem_cons.mp ((h z).mp (List.mem_cons_of_mem _ hz)) with rfl | q
      · exact absurd (a1 z hz) (Int.lt_irrefl z)
      · exact q
    · intro hz
      rcases List.mem_cons.mp ((h z).mpr (List.mem_cons_of_mem _ hz)) with rfl | q
      · exact absurd (b1 z hz) (Int.lt_irrefl z)
      · exact q
theorem nodup_le : ∀ {l m : List Int}, l.Nodup → (∀ x ∈ l, x ∈ m) → l.length ≤ m.length
  | [], m, _, _ => by simp
  | x :: l, m, h, hs => by
    obtain ⟨h1, h2⟩ := List.nodup_cons.mp h
    obtain ⟨a, b, e⟩ := List.append_of_mem (hs x List.mem_cons_self)
    have := nodup_le (l := l) (m := a ++ b) h2 fun z hz => by
      have q := hs z (List.mem_cons_of_mem _ hz)
      rw [e] at q
      rcases List.mem_append.mp q with q | q
      · exact List.mem_append_left _ q
      · rcases List.mem_cons.mp q with rfl | q
        · exact absurd hz h1
        · exact List.mem_append_right _ q
    rw [e]
    simp at this ⊢
    omega
theorem setR_size {w : World} {h : Heap} {a : Addr} {ns : List Int} {c : Nat} (R : SetR w h a (fun j => decide (j ∈ ns)) c) : c ≤ (sortU ns).length := by
  obtain ⟨o, es, ep, t, ho, hx, hd, g, nd, hm, hb, hf, hn, _⟩ := R
  have := nodup_le (m := sortU ns) nd fun x hx => mem_sortU.mpr (of_decide_eq_true ((hm x).mpr hx))
  simp at this
  omega
section
variable {X : Cx} {K : PySem.W.Frag} {C O C1 O1 C2 O2 : List Addr} {M M1 M2 : Addr → Prop} {H H1 H2 : Hp} {st st1 st2 : Ms} {v v1 v2 : V} {d d1 d2 : D} {o o1 o2 os : List Addr} {Q : VK} {vs : List V} {σ : L2.St} {env env1 env2 : Env} {fe fk : ES}
def tSortSet (K : PySem.W.Frag) (ta : TE) : TE := fun σ H Q => ta σ H fun x H1 => ∃ (l : Addr) (ns : List Int), x = .ref l ∧ SqL K H1 l (ns.map V.int) ∧ ns.length ≤ 4000 ∧ (sortU ns).length < 64 ∧ ∀ p, H1 p = none → Q (.ref p) (upd H1 p (.lst ((sortU ns).map V.int)))
theorem pe_sortSet {a : Expr} {ta : TE} {p p2 q pos : Pos} (hg : Gl X "sorted") (hm : X.mg "sorted" = none) (hg2 : Gl X "set") (hm2 : X.mg "set" = none) (ha : PE X a ta) (hc : X.calm = true := by rfl)
    (na : starEach [a] X.env = (false, eval a X.env) :: starEach [] X.env := by rfl) : PE X (.Call (.Name "sorted" p) [.Call (.Name "set" p2) [a] [] q] [] pos) (tSortSet X.K ta) := by
  refine ⟨fun pins s σ H Q I h => ?_⟩
  refine Call_ (ld_blt I hg hm bt_sorted ?_)
  refine PyProof.Rows.callWith_builtin1 (PyProof.Rows.args_cons ?_ rfl) rfl rfl
  refine Call_ (ld_blt I hg2 hm2 boot_set ?_)
  refine PyProof.Rows.callWith_type1 (PyProof.Rows.args_cons (thn (ha.run pins s σ H _ I h) fun v s1 ⟨x, H1, I1, r1, q1⟩ => PyProof.Rows.args_nil ?_) na) na rfl
  obtain ⟨l, ns, rfl, hq, hl, h64, q1⟩ := q1
  cases r1
  obtain ⟨its, r, pl, hz⟩ := I1.list hq
  refine set_listI (P := X.prog) (w := X.w) ns (I1.ok.hd hc) pl.isList (by simpa using r.ints) (by unfold scanBound; omega) fun h' tk c hS hk => ?_
  refine PyProof.Rows.args_nil ?_
  have I2 : Inv X pins σ H1 { s1 with heap := h', toks := tk } := I1.kept hk
  have hc64 : c < 64 := Nat.lt_of_le_of_lt (setR_size hS) h64
  obtain ⟨s2, es2⟩ : ∃ s2 : Shared, s2 = { s1 with heap := h', toks := tk } := ⟨_, rfl⟩
  have hS2 : SetR X.w s2.heap s1.heap.objs.size (fun j => decide (j ∈ ns)) c := by rw [es2]; exact hS
  rw [← es2] at I2 ⊢
  refine sorted_set hS2 (I2.ok.hd hc) hc64 fun s' p out c2 ms k g o hp hgp hi hs hmm hl2 => ?_
  have e0 : ms = sortU ns := pw_uniq hs pw_sortU fun z => by rw [hmm z, mem_sortU]; simp
  subst e0
  have hlen : ((sortU ns).map V.int).length ≤ sizeLine := by rw [List.length_map, sizeLine_eq]; omega
  have hn : H1 p = none := I2.hok.fresh hp
  have J : Inv X pins σ (upd H1 p (.lst ((sortU ns).map V.int))) { s2 with heap := s'.heap, gens := s'.gens, drawn := s'.drawn, toks := s'.toks } :=
    I2.call (ch := []) (Un.laid k hp hn) (I2.hok.laid k hp ⟨hlen, out.toList, c2, vals_of_ints hi, hgp⟩) (by rw [g]; exact I2.bare) (fun _ z => nomatch z)
  have e : s' = { s2 with heap := s'.heap, gens := s'.gens, drawn := s'.drawn, toks := s'.toks } := by
    cases s'
    cases s2
    cases o
    rfl
  rw [e]
  exact ⟨.ref p, _, J, rfl, q1 p hn⟩
def rSS (K : PySem.W.Frag) : V → Hp → VK → Prop := fun x H Q => ∃ (l : Addr) (ns : List Int), x = .ref l ∧ SqL K H l (ns.map V.int) ∧ ns.length ≤ 4000 ∧ (sortU ns).length < 64 ∧ ∀ p, H p = none → Q (.ref p) (upd H p (.lst ((sortU ns).map V.int)))
def ssD (_ : Ms) (d : D) : Option D := d.li2.bind fun l => (intsOf l).bind fun ns => if ns.length ≤ 4000 ∧ (sortU ns).length < 64 then some (.own ((sortU ns).map .int)) else none
theorem rvs_mk {C : List Addr} {M : Addr → Prop} {H : Hp} : ∀ (ns : List Int), RVs K C M H (ns.map V.int) (ns.map D.int) []
  | [] => .nil
  | n :: ns => .cons0 (.int n) (rvs_mk ns)
theorem ok_ss : UnOk K (rSS K) ssD := by
  intro C M H st v1 d1 o1 res Q ci r e q
  unfold ssD at e
  rw [Option.bind_eq_some_iff] at e
  obtain ⟨l, e1, e⟩ := e
  rw [Option.bind_eq_some_iff] at e
  obtain ⟨ns, e2, e⟩ := e
  split at e
  · rename_i hc
    cases e
    obtain ⟨p, xs, rfl, h1, r1⟩ := li2_ok e1 r
    rw [intsOf_ok e2] at r1
    rw [rvs_ints r1] at h1
    exact ⟨p, ns, rfl, h1, hc.1, hc.2, fun p hp => ans_new ci (rvs_mk _) q hp⟩
  · cases e
theorem se_sortSet {a : Expr} {f : ES} {p p2 q pos : Pos} (hc : X.calm = true) (hg : Gl X "sorted") (hm : X.mg "sorted" = none) (hg2 : Gl X "set") (hm2 : X.mg "set" = none) (ha : SP X a f)
    (na : starEach [a] X.env = (false, eval a X.env) :: starEach [] X.env := by rfl) : SE X (.Call (.Name "sorted" p) [.Call (.Name "set" p2) [a] [] q] [] pos) (fUn ssD f) :=
  pe_weak (pe_sortSet hg hm hg2 hm2 ha hc na) fun σ H Q h => te_un ok_ss h
end
end Pv

/-! # PvS4 -/
set_option Elab.async false
set_option linter.all false
set_option maxHeartbeats 1000000
set_option maxRecDepth 100000
/-! xs.index(x) -/
namespace Pv
open PySem PySem.Spec PyProof.Rows L2
section
variable {X : Cx} {K : PySem.W.Frag} {C O C1 O1 C2 O2 : List Addr} {M M1 M2 : Addr → Prop} {H H1 H2 : Hp} {st st1 st2 : Ms} {v v1 v2 : V} {d d1 d2 : D} {o1 o2 os : List Addr} {Q : VK} {vs : List V} {σ : L2.St} {env env1 env2 : Env} {f1 f2 : ES}
def D.lts : D → Option (List D)
  | .lst l => some l | .own l => some l
  | _ => none
def idxD (_ : Ms) (a b : D) : Option D := a.lts.bind fun l => if b.nc = true ∧ D.ncs l = true ∧ SeqAt.shaped b.py = true ∧ SeqAt.shaped (.list (D.pys l)) = true then ((D.pys l).findIdx? fun z => PyData.eqv z b.py).map fun j => .int (j : Nat) else none
theorem lts_ok {l : List D} (h : d.lts = some l) (r : RV K C M H v d os) : ∃ p xs, v = .ref p ∧ SqL K H p xs := by
  cases d <;> first | (cases h; done) | skip
  · cases r with
    | lst h r => exact ⟨_, _, rfl, SqL.of h.1⟩
  · cases r with
    | own h r => exact ⟨_, _, rfl, SqL.of h⟩
theorem lts_dp {l : List D} (h : d.lts = some l) (r : RV K C M H v d os) (n : D.ncs l = true) : Dp K H v (.list (D.pys l)) := by
  cases d <;> first | (cases h; done) | skip
  · cases h
    simpa only [D.py] using r.dp (d := .lst l) (by simpa only [D.nc] using n)
  · cases h
    simpa only [D.py] using r.dp (d := .own l) (by simpa only [D.nc] using n)
theorem se_index {o e : Expr} {apos cpos : Pos} (hu : X.A.units + 65 < cLine) (h1 : SP X o f1) (h2 : SP X e f2)
    (hbase : attributeBase o "index" X.env (eval o X.env) = eval o X.env := by rfl)
    (hfew : ((backTo cpos (starEach [e] X.env)).all (fun x => !x.1) && (backToKw cpos (keywordEach [] X.env)).all (fun x => x.1.isSome)
      && decide ([e].length + ([] : List Keyword).length + (if ([] : List Keyword).isEmpty then 0 else 1) < 30)) = true := by rfl)
    (hline : (apos.endLine == cpos.line) = true := by rfl) (hs : starEach [e] X.env = (false, eval e X.env) :: starEach [] X.env := by rfl) (hplain : (backTo cpos (starEach [] X.env)).any (·.1) = false := by rfl) :
    SE X (.Call (.Attribute o "index" apos) [e] [] cpos) (fBin idxD f1 f2) :=
  pe_weak (pe_bm PySem.F.plainAttrs_list PySem.F.slot_list_index PySem.F.type_list_index (mt_indexD hu) h1 (sps_cons h2 sps_nil hs) hbase hfew hline hs hplain) fun σ H Q h => by
    obtain ⟨C, O, M, env, st, d, env', st', fi, e, q⟩ := h
    unfold fBin at e
    rw [Option.bind_eq_some_iff] at e
    obtain ⟨⟨a, env1, st1⟩, e1, e⟩ := e
    rw [Option.bind_eq_some_iff] at e
    obtain ⟨⟨b, env2, st2⟩, e2, e⟩ := e
    rw [Option.map_eq_some_iff] at e
    obtain ⟨c, e3, e⟩ := e
    cases e
    unfold idxD at e3
    rw [Option.bind_eq_some_iff] at e3
    obtain ⟨l, e4, e3⟩ := e3
    split at e3
    · rename_i hc
      obtain ⟨c1, c2, c3, c4⟩ := hc
      rw [Option.map_eq_some_iff] at e3
      obtain ⟨j, e5, rfl⟩ := e3
      refine ⟨C, O, M, env, st, a, env1, st1, fi, e1, fun v1 H1 C1 O1 M1 o1 g1 fi1 r1 n1 => ⟨?_, C1, O1, M1, env1, st1, [b], env', st', fi1, ?_, fun vs H2 C2 O2 M2 o2 g2 fi2 r2 n2 => ?_⟩⟩
      · obtain ⟨p, xs, rfl, hq⟩ := lts_ok e4 r1
        exact .inl ⟨rfl, xs, hq⟩
      · unfold aCons aNil
        dsimp only at e2 ⊢
        rw [e2]
        rfl
      · obtain ⟨v2, rfl, r3⟩ := rvs_one r2
        have r1' := g2.rv fi1.ci.mC r1 n1
        obtain ⟨p, xs, rfl, hq⟩ := lts_ok e4 r1'
        rw [List.findIdx?_eq_some_iff_getElem] at e5
        obtain ⟨hj, hz, hno⟩ := e5
        refine ⟨p, v2, b.py, D.pys l, j, (D.pys l)[j], rfl, rfl, lts_dp e4 r1' c2, r3.dp c1, c4, c3, List.getElem?_eq_getElem hj, hz, fun m z' hm hz' => ?_, ?_⟩
        · have hml : m < (D.pys l).length := by omega
          rw [List.getElem?_eq_getElem hml] at hz'
          have := hno m hm
          rw [Option.some.inj hz'] at this
          simpa using this
        · exact (ans_of fi (g1.trans fi.ci.tr g2) fi2 q).val fi2.ci (.int _)
    · cases e3
end
end Pv

/-! # PvW -/
set_option Elab.async false
set_option linter.all false
set_option maxHeartbeats 1000000
/-! the meanings, for the mathematics: weakest conditions by simp -/
namespace Pv
open PySem
def Wp {α : Type} (o : Option α) (Q : α → Prop) : Prop := ∃ x, o = some x ∧ Q x
section
variable {α β : Type} {Q : α → Prop} {R : β → Prop}
@[simp] theorem wp_some {x : α} : Wp (some x) Q ↔ Q x := ⟨fun ⟨y, e, h⟩ => by cases e; exact h, fun h => ⟨x, rfl, h⟩⟩
@[simp] theorem wp_none : Wp (none : Option α) Q ↔ False := ⟨fun ⟨y, e, h⟩ => (nomatch e), False.elim⟩
theorem wp_bind {o : Option β} {f : β → Option α} : Wp (o.bind f) Q ↔ Wp o fun x => Wp (f x) Q := by
  cases o with
  | none => simp
  | some x => simp
theorem wp_map' {o : Option β} {f : β → α} : Wp (o.map f) Q ↔ Wp o fun x => Q (f x) := by
  cases o with
  | none => simp
  | some x => simp
@[simp] theorem wp_ite {c : Prop} [Decidable c] {a b : Option α} : Wp (if c then a else b) Q ↔ if c then Wp a Q else Wp b Q := by split <;> rfl
theorem Wp.mono {o : Option α} {Q' : α → Prop} (h : Wp o Q) (i : ∀ x, Q x → Q' x) : Wp o Q' := h.elim fun x ⟨e, q⟩ => ⟨x, e, i x q⟩
theorem wp_eq {o : Option α} {x : α} : Wp o (fun y => y = x) ↔ o = some x := ⟨fun ⟨y, e, h⟩ => h ▸ e, fun h => ⟨x, h, rfl⟩⟩
end
section
variable {env : Env} {st : Ms} {f f1 f2 f3 : ES} {fs fk : AS} {t t1 t2 : BS} {i j c : Nat} {d a b : D} {m : FS} {w : WS} {gs : GS} {S S1 S2 : SS} {lo hi : OS}
@[simp] theorem wp_fC {Q : D × Env × Ms → Prop} : Wp (fC d env st) Q ↔ Q (d, env, st) := by unfold fC; simp
@[simp] theorem wp_fPk {Q : D × Env × Ms → Prop} : Wp (fPk i env st) Q ↔ ∃ d, env[i]? = some (some d) ∧ Q (d, env, st) := by
  unfold fPk
  split
  · rename_i d e
    simp [e]
  · rename_i h
    simp only [wp_none, false_iff]
    rintro ⟨d, e, _⟩
    exact h d e
@[simp] theorem wp_fVar {Q : D × Env × Ms → Prop} : Wp (fVar i env st) Q ↔ ∃ d, env[i]? = some (some d) ∧ Q (d.fz, env.set i (some d.fz), st) := by
  unfold fVar
  split
  · rename_i d e
    simp [e]
  · rename_i h
    simp only [wp_none, false_iff]
    rintro ⟨d, e, _⟩
    exact h d e
@[simp] theorem wp_fMv {Q : D × Env × Ms → Prop} : Wp (fMv i env st) Q ↔ ∃ d, env[i]? = some (some d) ∧ Q (d, env.set i none, st) := by
  unfold fMv
  split
  · rename_i d e
    simp [e]
  · rename_i h
    simp only [wp_none, false_iff]
    rintro ⟨d, e, _⟩
    exact h d e
@[simp] theorem wp_fZ {Q : D × Env × Ms → Prop} : Wp (fZ f env st) Q ↔ Wp (f env st) fun x => Q (x.1.fz, x.2) := by unfold fZ; rw [wp_map']
@[simp] theorem wp_fBin {g : Ms → D → D → Option D} {Q : D × Env × Ms → Prop} : Wp (fBin g f1 f2 env st) Q ↔ Wp (f1 env st) fun x => Wp (f2 x.2.1 x.2.2) fun y => Wp (g y.2.2 x.1 y.1) fun r => Q (r, y.2) := by unfold fBin; simp only [wp_bind, wp_map']
@[simp] theorem wp_fUn {g : Ms → D → Option D} {Q : D × Env × Ms → Prop} : Wp (fUn g f1 env st) Q ↔ Wp (f1 env st) fun x => Wp (g x.2.2 x.1) fun r => Q (r, x.2) := by unfold fUn; simp only [wp_bind, wp_map']
@[simp] theorem wp_aNil {Q : List D × Env × Ms → Prop} : Wp (aNil env st) Q ↔ Q ([], env, st) := by unfold aNil; simp
@[simp] theorem wp_aCons {Q : List D × Env × Ms → Prop} : Wp (aCons f fs env st) Q ↔ Wp (f env st) fun x => Wp (fs x.2.1 x.2.2) fun y => Q (x.1 :: y.1, y.2) := by unfold aCons; simp only [wp_bind, wp_map']
@[simp] theorem wp_fTup {Q : D × Env × Ms → Prop} : Wp (fTup fs env st) Q ↔ Wp (fs env st) fun x => x.1.length ≤ BIG ∧ Q (.tup x.1, x.2) := by
  unfold fTup
  rw [wp_bind]
  refine ⟨fun h => h.mono fun x q => ?_, fun h => h.mono fun x q => ?_⟩
  · by_cases e : x.1.length ≤ BIG
    · rw [if_pos e] at q; exact ⟨e, by simpa using q⟩
    · rw [if_neg e] at q; simp at q
  · rw [if_pos q.1]; simpa using q.2
@[simp] theorem wp_fLst {Q : D × Env × Ms → Prop} : Wp (fLst fs env st) Q ↔ Wp (fs env st) fun x => x.1.length ≤ BIG ∧ Q (.own x.1, x.2) := by
  unfold fLst
  rw [wp_bind]
  refine ⟨fun h => h.mono fun x q => ?_, fun h => h.mono fun x q => ?_⟩
  · by_cases e : x.1.length ≤ BIG
    · rw [if_pos e] at q; exact ⟨e, by simpa using q⟩
    · rw [if_neg e] at q; simp at q
  · rw [if_pos q.1]; simpa using q.2
@[simp] theorem wp_fCl {g : Ms → List D → Option D} {Q : D × Env × Ms → Prop} : Wp (fCl g fs env st) Q ↔ Wp (fs env st) fun x => Wp (g x.2.2 x.1) fun r => Q (r, x.2) := by unfold fCl; simp only [wp_bind, wp_map']
/-- a value that is a truth -/
@[simp] theorem wp_fB {Q : Bool × Env × Ms → Prop} : Wp (fB f env st) Q ↔ Wp (f env st) fun x => ∃ b, x.1 = .bl b ∧ Q (b, x.2) := by
  unfold fB
  rw [wp_bind]
  refine ⟨fun h => h.mono fun x q => ?_, fun h => h.mono fun x q => ?_⟩
  · split at q
    · rename_i b e; exact ⟨b, e, by simpa using q⟩
    · simp at q
  · obtain ⟨b, e, q⟩ := q
    rw [e]; simpa using q
@[simp] theorem wp_bYes {Q : Bool × Env × Ms → Prop} : Wp (bYes env st) Q ↔ Q (true, env, st) := by unfold bYes; simp
@[simp] theorem wp_bAnd {Q : Bool × Env × Ms → Prop} : Wp (bAnd t1 t2 env st) Q ↔ Wp (t1 env st) fun x => if x.1 = true then Wp (t2 x.2.1 x.2.2) Q else Q (false, x.2) := by unfold bAnd; simp only [wp_bind, wp_ite, wp_some]
@[simp] theorem wp_bOr {Q : Bool × Env × Ms → Prop} : Wp (bOr t1 t2 env st) Q ↔ Wp (t1 env st) fun x => if x.1 = true then Q (true, x.2) else Wp (t2 x.2.1 x.2.2) Q := by unfold bOr; simp only [wp_bind, wp_ite, wp_some]
@[simp] theorem wp_bNot {Q : Bool × Env × Ms → Prop} : Wp (bNot t1 env st) Q ↔ Wp (t1 env st) fun x => Q (!x.1, x.2) := by unfold bNot; simp only [wp_map']
@[simp] theorem wp_fAnd {Q : D × Env × Ms → Prop} : Wp (fAnd f1 f2 env st) Q ↔ Wp (f1 env st) fun x => ∃ b, x.1 = .bl b ∧ if b = true then Wp (f2 x.2.1 x.2.2) Q else Q (.bl false, x.2) := by
  unfold fAnd
  rw [wp_bind]
  refine ⟨fun h => h.mono fun x q => ?_, fun h => h.mono fun x q => ?_⟩
  · split at q
    · rename_i e; exact ⟨true, e, by simpa using q⟩
    · rename_i e; exact ⟨false, e, by simpa using q⟩
    · simp at q
  · obtain ⟨b, e, q⟩ := q
    rw [e]; cases b <;> simpa using q
@[simp] theorem wp_fOr {Q : D × Env × Ms → Prop} : Wp (fOr f1 f2 env st) Q ↔ Wp (f1 env st) fun x => ∃ b, x.1 = .bl b ∧ if b = true then Q (.bl true, x.2) else Wp (f2 x.2.1 x.2.2) Q := by
  unfold fOr
  rw [wp_bind]
  refine ⟨fun h => h.mono fun x q => ?_, fun h => h.mono fun x q => ?_⟩
  · split at q
    · rename_i e; exact ⟨true, e, by simpa using q⟩
    · rename_i e; exact ⟨false, e, by simpa using q⟩
    · simp at q
  · obtain ⟨b, e, q⟩ := q
    rw [e]; cases b <;> simpa using q
@[simp] theorem wp_fNot {Q : D × Env × Ms → Prop} : Wp (fNot f1 env st) Q ↔ Wp (f1 env st) fun x => ∃ b, x.1 = .bl b ∧ Q (.bl (!b), x.2) := by
  unfold fNot
  rw [wp_bind]
  refine ⟨fun h => h.mono fun x q => ?_, fun h => h.mono fun x q => ?_⟩
  · split at q
    · rename_i b e; exact ⟨b, e, by simpa using q⟩
    · simp at q
  · obtain ⟨b, e, q⟩ := q
    rw [e]; simpa using q
@[simp] theorem wp_fChain {g g' : Ms → D → D → Option D} {Q : D × Env × Ms → Prop} : Wp (fChain g g' f1 f2 f3 env st) Q ↔ Wp (f1 env st) fun x => Wp (f2 x.2.1 x.2.2) fun y => Wp (g y.2.2 x.1 y.1) fun z => ∃ b, z = .bl b ∧ if b = true then Wp (f3 y.2.1 y.2.2) fun w => Wp (g' w.2.2 y.1 w.1) fun r => Q (r, w.2) else Q (.bl false, y.2) := by
  unfold fChain
  rw [wp_bind]
  refine ⟨fun h => h.mono fun x q => ?_, fun h => h.mono fun x q => ?_⟩
  · rw [wp_bind] at q
    refine q.mono fun y q => ?_
    rw [wp_bind] at q
    refine q.mono fun z q => ?_
    split at q
    · exact ⟨true, rfl, by simpa only [wp_bind, wp_map', if_true] using q⟩
    · exact ⟨false, rfl, by simpa using q⟩
    · simp at q
  · rw [wp_bind]
    refine q.mono fun y q => ?_
    rw [wp_bind]
    refine q.mono fun z q => ?_
    obtain ⟨b, e, q⟩ := q
    rw [e]
    cases b
    · simpa using q
    · simpa only [wp_bind, wp_map', if_true] using q
@[simp] theorem wp_fIf {Q : D × Env × Ms → Prop} : Wp (fIf t f1 f2 env st) Q ↔ Wp (t env st) fun x => if x.1 = true then Wp (f1 x.2.1 x.2.2) Q else Wp (f2 x.2.1 x.2.2) Q := by unfold fIf; simp only [wp_bind, wp_ite]
@[simp] theorem wp_fIsa {T : String} {Q : D × Env × Ms → Prop} : Wp (fIsa T f env st) Q ↔ Wp (f env st) fun x => Q (.bl (isaB T x.1), x.2) := by unfold fIsa; simp only [wp_map']
@[simp] theorem wp_fCall {Q : D × Env × Ms → Prop} : Wp (fCall m fs env st) Q ↔ Wp (fs env st) fun x => Wp (m x.1 x.2.2) fun y => Q (y.1, x.2.1, y.2) := by unfold fCall; simp only [wp_bind, wp_map']
@[simp] theorem wp_fCallK0 {is : List Nat} {nk : Nat} {Q : D × Env × Ms → Prop} : Wp (fCallK0 m is nk fk env st) Q ↔ Wp (fk env st) fun x => x.1.length = nk ∧ Wp (m (pmOf is [] x.1) x.2.2) fun y => Q (y.1, x.2.1, y.2) := by
  unfold fCallK0
  rw [wp_bind]
  refine ⟨fun h => h.mono fun x q => ?_, fun h => h.mono fun x q => ?_⟩
  · by_cases e : x.1.length = nk
    · rw [if_pos e, wp_map'] at q; exact ⟨e, q⟩
    · rw [if_neg e] at q; simp at q
  · rw [if_pos q.1, wp_map']; exact q.2
@[simp] theorem wp_fCallK {is : List Nat} {n nk : Nat} {Q : D × Env × Ms → Prop} : Wp (fCallK m is n nk fs fk env st) Q ↔ Wp (fs env st) fun x => Wp (fk x.2.1 x.2.2) fun y => (x.1.length = n ∧ y.1.length = nk) ∧ Wp (m (pmOf is x.1 y.1) y.2.2) fun z => Q (z.1, y.2.1, z.2) := by
  unfold fCallK
  rw [wp_bind]
  refine ⟨fun h => h.mono fun x q => ?_, fun h => h.mono fun x q => ?_⟩
  · rw [wp_bind] at q
    refine q.mono fun y q => ?_
    by_cases e : x.1.length = n ∧ y.1.length = nk
    · rw [if_pos e, wp_map'] at q; exact ⟨e, q⟩
    · rw [if_neg e] at q; simp at q
  · rw [wp_bind]
    refine q.mono fun y q => ?_
    rw [if_pos q.1, wp_map']; exact q.2
@[simp] theorem wp_oNo {Q : Option Int × Env × Ms → Prop} : Wp (oNo env st) Q ↔ Q (none, env, st) := by unfold oNo; simp
@[simp] theorem wp_oE {Q : Option Int × Env × Ms → Prop} : Wp (oE f env st) Q ↔ Wp (f env st) fun x => ∃ i, x.1 = .int i ∧ Q (some i, x.2) := by
  unfold oE
  rw [wp_bind]
  refine ⟨fun h => h.mono fun x q => ?_, fun h => h.mono fun x q => ?_⟩
  · split at q
    · rename_i b e; exact ⟨b, e, by simpa using q⟩
    · simp at q
  · obtain ⟨b, e, q⟩ := q
    rw [e]; simpa using q
@[simp] theorem wp_fSl {Q : D × Env × Ms → Prop} : Wp (fSl f lo hi env st) Q ↔ Wp (f env st) fun x => Wp (lo x.2.1 x.2.2) fun y => Wp (hi y.2.1 y.2.2) fun z => Wp (slD x.1 y.1 z.1) fun r => Q (r, z.2) := by unfold fSl; simp only [wp_bind, wp_map']
@[simp] theorem wp_fLrg1 {Q : D × Env × Ms → Prop} : Wp (fLrg1 f env st) Q ↔ Wp (f env st) fun x => ∃ n, x.1 = .int n ∧ okR n = true ∧ Q (.own (rgD 0 n), x.2) := by
  unfold fLrg1
  rw [wp_bind]
  refine ⟨fun h => h.mono fun x q => ?_, fun h => h.mono fun x q => ?_⟩
  · split at q
    · rename_i n e
      by_cases k : okR n = true
      · rw [if_pos k] at q; exact ⟨n, e, k, by simpa using q⟩
      · rw [if_neg k] at q; simp at q
    · simp at q
  · obtain ⟨n, e, k, q⟩ := q
    rw [e]; simp [k, q]
/-! statements -/
@[simp] theorem wp_sNil {Q : Fl → Prop} : Wp (sNil env st) Q ↔ Q (.nx env st) := by unfold sNil; simp
@[simp] theorem wp_sPass {Q : Fl → Prop} : Wp (sPass env st) Q ↔ Q (.nx env st) := by unfold sPass; simp
@[simp] theorem wp_sNo {Q : Fl → Prop} : Wp (sNo env st) Q ↔ False := by unfold sNo; simp
/-- what comes after -/
def Aft (S : SS) (Q : Fl → Prop) : Fl → Prop
  | .nx env st => Wp (S env st) Q
  | r => Q r
@[simp] theorem aft_nx {Q : Fl → Prop} : Aft S Q (.nx env st) ↔ Wp (S env st) Q := Iff.rfl
@[simp] theorem aft_rt {Q : Fl → Prop} : Aft S Q (.rt d st) ↔ Q (.rt d st) := Iff.rfl
@[simp] theorem aft_bk {Q : Fl → Prop} : Aft S Q (.bk env st) ↔ Q (.bk env st) := Iff.rfl
@[simp] theorem aft_ct {Q : Fl → Prop} : Aft S Q (.ct env st) ↔ Q (.ct env st) := Iff.rfl
@[simp] theorem wp_sSeq {Q : Fl → Prop} : Wp (sSeq S1 S2 env st) Q ↔ Wp (S1 env st) (Aft S2 Q) := by
  unfold sSeq
  rw [wp_bind]
  refine ⟨fun h => h.mono fun x q => ?_, fun h => h.mono fun x q => ?_⟩
  · cases x <;> simpa using q
  · cases x <;> simpa using q
@[simp] theorem wp_sDrop {Q : Fl → Prop} : Wp (sDrop f env st) Q ↔ Wp (f env st) fun x => Q (.nx x.2.1 x.2.2) := by unfold sDrop; simp only [wp_map']
@[simp] theorem wp_sRet {Q : Fl → Prop} : Wp (sRet f env st) Q ↔ Wp (f env st) fun x => Q (.rt x.1 x.2.2) := by unfold sRet; simp only [wp_map']
@[simp] theorem wp_sIf {Q : Fl → Prop} : Wp (sIf t S1 S2 env st) Q ↔ Wp (t env st) fun x => if x.1 = true then Wp (S1 x.2.1 x.2.2) Q else Wp (S2 x.2.1 x.2.2) Q := by unfold sIf; simp only [wp_bind, wp_ite]
@[simp] theorem wp_sAsg {Q : Fl → Prop} : Wp (sAsg i f env st) Q ↔ Wp (f env st) fun x => i < x.2.1.length ∧ Q (.nx (x.2.1.set i (some x.1)) x.2.2) := by
  unfold sAsg
  rw [wp_bind]
  refine ⟨fun h => h.mono fun x q => ?_, fun h => h.mono fun x q => ?_⟩
  · by_cases e : i < x.2.1.length
    · rw [if_pos e] at q; exact ⟨e, by simpa using q⟩
    · rw [if_neg e] at q; simp at q
  · rw [if_pos q.1]; simpa using q.2
@[simp] theorem wp_sApp {Q : Fl → Prop} : Wp (sApp i f env st) Q ↔ (∃ l, env[i]? = some (some (.own l))) ∧ Wp (f env st) fun x => ∃ l, x.2.1[i]? = some (some (.own l)) ∧ l.length < BIG ∧ Q (.nx (x.2.1.set i (some (.own (l ++ [x.1])))) x.2.2) := by
  unfold sApp
  split
  · rename_i l e
    rw [wp_bind]
    simp only [e, Option.some.injEq, D.own.injEq, exists_eq', true_and]
    refine ⟨fun h => h.mono fun x q => ?_, fun h => h.mono fun x q => ?_⟩
    · split at q
      · rename_i l e
        by_cases k : l.length < BIG
        · rw [if_pos k] at q; exact ⟨l, e, k, by simpa using q⟩
        · rw [if_neg k] at q; simp at q
      · simp at q
    · obtain ⟨l, e, k, q⟩ := q
      rw [e]; simp [k, q]
  · rename_i h
    simp only [wp_none, false_iff]
    rintro ⟨⟨l, e⟩, _⟩
    exact h l e
@[simp] theorem wp_sExt {Q : Fl → Prop} : Wp (sExt i f env st) Q ↔ (∃ l, env[i]? = some (some (.own l))) ∧ Wp (f env st) fun x => ∃ l m, x.2.1[i]? = some (some (.own l)) ∧ x.1 = .lst m ∧ l.length + m.length ≤ BIG ∧ Q (.nx (x.2.1.set i (some (.own (l ++ m)))) x.2.2) := by
  unfold sExt
  split
  · rename_i l e
    rw [wp_bind]
    simp only [e, Option.some.injEq, D.own.injEq, exists_eq', true_and]
    refine ⟨fun h => h.mono fun x q => ?_, fun h => h.mono fun x q => ?_⟩
    · split at q
      · rename_i l m e e2
        by_cases k : l.length + m.length ≤ BIG
        · rw [if_pos k] at q; exact ⟨l, m, e, e2, k, by simpa using q⟩
        · rw [if_neg k] at q; simp at q
      · simp at q
    · obtain ⟨l, m, e, e2, k, q⟩ := q
      rw [e, e2]; simp [k, q]
  · rename_i h
    simp only [wp_none, false_iff]
    rintro ⟨⟨l, e⟩, _⟩
    exact h l e
@[simp] theorem wp_sAug {g : Int → Int → Int} {Q : Fl → Prop} : Wp (sAug i g f env st) Q ↔ ∃ a, env[i]? = some (some (.int a)) ∧ Wp (f env st) fun x => ∃ b, x.1 = .int b ∧ i < x.2.1.length ∧ Q (.nx (x.2.1.set i (some (.int (g a b)))) x.2.2) := by
  unfold sAug
  split
  · rename_i a e
    rw [wp_bind]
    simp only [e, Option.some.injEq, D.int.injEq, exists_eq_left']
    refine ⟨fun h => h.mono fun x q => ?_, fun h => h.mono fun x q => ?_⟩
    · split at q
      · rename_i b e
        by_cases k : i < x.2.1.length
        · rw [if_pos k] at q; exact ⟨b, e, k, by simpa using q⟩
        · rw [if_neg k] at q; simp at q
      · simp at q
    · obtain ⟨b, e, k, q⟩ := q
      rw [e]; simp [k, q]
  · rename_i h
    simp only [wp_none, false_iff]
    rintro ⟨a, e, _⟩
    exact h a e
@[simp] theorem wp_sSetC {Q : Fl → Prop} : Wp (sSetC i f1 f env st) Q ↔ Wp (f env st) fun x => ∃ c, x.2.1[i]? = some (some (.cell c)) ∧ Wp (f1 x.2.1 x.2.2) fun y => Wp (setCell c x.1 y.1 y.2.1 y.2.2) Q := by
  unfold sSetC
  rw [wp_bind]
  refine ⟨fun h => h.mono fun x q => ?_, fun h => h.mono fun x q => ?_⟩
  · split at q
    · rename_i c e
      exact ⟨c, e, by simpa only [wp_bind] using q⟩
    · simp at q
  · obtain ⟨c, e, q⟩ := q
    rw [e]; simpa only [wp_bind] using q
@[simp] theorem wp_sCell {Q : Fl → Prop} : Wp (sCell i f env st) Q ↔ Wp (f env st) fun x => ∃ l, x.1 = .own l ∧ (i < x.2.1.length ∧ D.ncs (D.fzs l) = true) ∧ Q (.nx (x.2.1.set i (some (.cell x.2.2.length))) (x.2.2 ++ [D.fzs l])) := by
  unfold sCell
  rw [wp_bind]
  refine ⟨fun h => h.mono fun x q => ?_, fun h => h.mono fun x q => ?_⟩
  · split at q
    · rename_i l e
      by_cases k : i < x.2.1.length ∧ D.ncs (D.fzs l) = true
      · rw [if_pos k] at q; exact ⟨l, e, k, by simpa using q⟩
      · rw [if_neg k] at q; simp at q
    · simp at q
  · obtain ⟨l, e, k, q⟩ := q
    rw [e]; simp [k, q]
@[simp] theorem wp_sUnp {is : List Nat} {Q : Fl → Prop} : Wp (sUnp is f env st) Q ↔ Wp (f env st) fun x => ∃ l, x.1 = .tup l ∧ l.length = is.length ∧ Wp (setAll is l x.2.1) fun e => Q (.nx e x.2.2) := by
  unfold sUnp
  rw [wp_bind]
  refine ⟨fun h => h.mono fun x q => ?_, fun h => h.mono fun x q => ?_⟩
  · split at q
    · rename_i l e
      by_cases k : l.length = is.length
      · rw [if_pos k, wp_map'] at q; exact ⟨l, e, k, q⟩
      · rw [if_neg k] at q; simp at q
    · simp at q
  · obtain ⟨l, e, k, q⟩ := q
    rw [e]; simp only [k, if_true, wp_map']; exact q
@[simp] theorem wp_sPar {Q : Fl → Prop} : Wp (sPar i j fs env st) Q ↔ Wp (fs env st) fun x => ∃ a b, x.1 = [a, b] ∧ Wp (setAll [i, j] [a, b] x.2.1) fun e => Q (.nx e x.2.2) := by
  unfold sPar
  rw [wp_bind]
  refine ⟨fun h => h.mono fun x q => ?_, fun h => h.mono fun x q => ?_⟩
  · split at q
    · rename_i a b e
      rw [wp_map'] at q; exact ⟨a, b, e, q⟩
    · simp at q
  · obtain ⟨a, b, e, q⟩ := q
    rw [e]; simp only [wp_map']; exact q
@[simp] theorem setAll_nil : setAll [] [] env = some env := rfl
@[simp] theorem setAll_cons {is : List Nat} {ds : List D} : setAll (i :: is) (d :: ds) env = if i < env.length then setAll is ds (env.set i (some d)) else none := rfl
/-! walks -/
@[simp] theorem wp_wSeq {Q : List D × Env × Ms → Prop} : Wp (wSeq f env st) Q ↔ Wp (f env st) fun x => (∃ l, x.1 = .lst l ∧ Q (l, x.2)) ∨ (∃ l, x.1 = .scr l ∧ Q (l.map D.int, x.2)) ∨ (∃ l, x.1 = .tup l ∧ Q (l, x.2)) := by
  unfold wSeq
  rw [wp_bind]
  refine ⟨fun h => h.mono fun x q => ?_, fun h => h.mono fun x q => ?_⟩
  · split at q
    · rename_i l e; exact .inl ⟨l, e, by simpa using q⟩
    · rename_i l e; exact .inr (.inl ⟨l, e, by simpa using q⟩)
    · rename_i l e; exact .inr (.inr ⟨l, e, by simpa using q⟩)
    · simp at q
  · rcases q with ⟨l, e, q⟩ | ⟨l, e, q⟩ | ⟨l, e, q⟩ <;> rw [e] <;> simpa using q
@[simp] theorem wp_wRng1 {Q : List D × Env × Ms → Prop} : Wp (wRng1 fs env st) Q ↔ Wp (fs env st) fun x => ∃ n, x.1 = [.int n] ∧ okR n = true ∧ Q (steps 0 1 n.toNat, x.2) := by
  unfold wRng1
  rw [wp_bind]
  refine ⟨fun h => h.mono fun x q => ?_, fun h => h.mono fun x q => ?_⟩
  · split at q
    · rename_i n e
      by_cases k : okR n = true
      · rw [if_pos k] at q; exact ⟨n, e, k, by simpa using q⟩
      · rw [if_neg k] at q; simp at q
    · simp at q
  · obtain ⟨n, e, k, q⟩ := q
    rw [e]; simp [k, q]
@[simp] theorem wp_wRng2 {Q : List D × Env × Ms → Prop} : Wp (wRng2 fs env st) Q ↔ Wp (fs env st) fun x => ∃ m n, x.1 = [.int m, .int n] ∧ (okR m = true ∧ okR n = true) ∧ Q (steps m 1 (n - m).toNat, x.2) := by
  unfold wRng2
  rw [wp_bind]
  refine ⟨fun h => h.mono fun x q => ?_, fun h => h.mono fun x q => ?_⟩
  · split at q
    · rename_i m n e
      by_cases k : okR m = true ∧ okR n = true
      · rw [if_pos k] at q; exact ⟨m, n, e, k, by simpa using q⟩
      · rw [if_neg k] at q; simp at q
    · simp at q
  · obtain ⟨m, n, e, k, q⟩ := q
    rw [e]; simp [k, q]
@[simp] theorem wp_wRng3 {Q : List D × Env × Ms → Prop} : Wp (wRng3 fs env st) Q ↔ Wp (fs env st) fun x => ∃ m n k, x.1 = [.int m, .int n, .int k] ∧ (okR m = true ∧ okR n = true ∧ k = -1) ∧ Q (steps m (-1) (m - n).toNat, x.2) := by
  unfold wRng3
  rw [wp_bind]
  refine ⟨fun h => h.mono fun x q => ?_, fun h => h.mono fun x q => ?_⟩
  · split at q
    · rename_i m n k e
      by_cases c : okR m = true ∧ okR n = true ∧ k = -1
      · rw [if_pos c] at q; exact ⟨m, n, k, e, c, by simpa using q⟩
      · rw [if_neg c] at q; simp at q
    · simp at q
  · obtain ⟨m, n, k, e, c, q⟩ := q
    rw [e]; simp only [c, and_self, if_true, wp_some]; exact q
@[simp] theorem wp_wZip {Q : List D × Env × Ms → Prop} : Wp (wZip fs env st) Q ↔ Wp (fs env st) fun x => (∃ l m, x.1 = [.tup l, .tup m] ∧ Q (zipD l m, x.2)) ∨ (∃ l m, x.1 = [.lst l, .lst m] ∧ Q (zipD l m, x.2)) := by
  unfold wZip
  rw [wp_bind]
  refine ⟨fun h => h.mono fun x q => ?_, fun h => h.mono fun x q => ?_⟩
  · split at q
    · rename_i l m e; exact .inl ⟨l, m, e, by simpa using q⟩
    · rename_i l m e; exact .inr ⟨l, m, e, by simpa using q⟩
    · simp at q
  · rcases q with ⟨l, m, e, q⟩ | ⟨l, m, e, q⟩ <;> rw [e] <;> simpa using q
@[simp] theorem wp_wEnum {Q : List D × Env × Ms → Prop} : Wp (wEnum fs env st) Q ↔ Wp (fs env st) fun x => (∃ l, x.1 = [.tup l] ∧ Q (enumD 0 l, x.2)) ∨ (∃ l, x.1 = [.lst l] ∧ Q (enumD 0 l, x.2)) := by
  unfold wEnum
  rw [wp_bind]
  refine ⟨fun h => h.mono fun x q => ?_, fun h => h.mono fun x q => ?_⟩
  · split at q
    · rename_i l e; exact .inl ⟨l, e, by simpa using q⟩
    · rename_i l e; exact .inr ⟨l, e, by simpa using q⟩
    · simp at q
  · rcases q with ⟨l, e, q⟩ | ⟨l, e, q⟩ <;> rw [e] <;> simpa using q
/-! targets -/
@[simp] theorem gN_ev : gN i d env = if i < env.length then some (env.set i (some d)) else none := rfl
@[simp] theorem gNilS_ev : gNilS [] env = some env := rfl
@[simp] theorem gConsS_ev {g : GS} {gss : List D → Env → Option Env} {ds : List D} : gConsS g gss (d :: ds) env = (g d env).bind fun e => gss ds e := rfl
@[simp] theorem gTupS_ev {gss : List D → Env → Option Env} {n : Nat} {ds : List D} : gTupS gss n (.tup ds) env = if ds.length = n then gss ds env else none := rfl
/-! loops -/
theorem wp_sFor {Q : Fl → Prop} : Wp (sFor w gs S env st) Q ↔ Wp (w env st) fun x => Wp (forF gs S x.1 x.2.1 x.2.2) Q := by unfold sFor; simp only [wp_bind]
/-- a loop that goes through: I by what has been walked -/
theorem wp_for {α : Type} {Q : Fl → Prop} (xs : List α) (g : α → D) (I : List α → Env → Ms → Prop) (h0 : I [] env st)
    (h : ∀ pre x post env st, xs = pre ++ x :: post → I pre env st → Wp (gs (g x) env) fun e => Wp (S e st) fun r => match r with
      | .nx e2 st2 => I (pre ++ [x]) e2 st2
      | .ct e2 st2 => I (pre ++ [x]) e2 st2
      | _ => False)
    (q : ∀ env st, I xs env st → Q (.nx env st)) : Wp (forF gs S (xs.map g) env st) Q := by
  have : ∀ (post pre : List α) (env : Env) (st : Ms), xs = pre ++ post → I pre env st → Wp (forF gs S (post.map g) env st) Q := by
    intro post
    induction post with
    | nil =>
      intro pre env st e i
      rw [List.append_nil] at e
      subst e
      exact ⟨_, rfl, q _ _ i⟩
    | cons x post ih =>
      intro pre env st e i
      show Wp ((gs (g x) env).bind fun env1 => (S env1 st).bind fun r => match r with
        | .nx env2 st2 => forF gs S (post.map g) env2 st2
        | .ct env2 st2 => forF gs S (post.map g) env2 st2
        | .bk env2 st2 => some (.nx env2 st2)
        | .rt d st2 => some (.rt d st2)) Q
      rw [wp_bind]
      refine (h pre x post env st e i).mono fun e1 q1 => ?_
      rw [wp_bind]
      refine q1.mono fun r q2 => ?_
      have e' : xs = (pre ++ [x]) ++ post := by rw [e, List.append_assoc]; rfl
      cases r with
      | nx e2 st2 => exact ih _ _ _ e' q2
      | ct e2 st2 => exact ih _ _ _ e' q2
      | bk e2 st2 => exact q2.elim
      | rt d st2 => exact q2.elim
  exact this xs [] env st rfl h0
/-! comprehensions -/
theorem wp_fComp {vs : List Nat} {Q : D × Env × Ms → Prop} : Wp (fComp w gs t f vs env st) Q ↔ Wp (w env st) fun x => okAt x.2.1 vs = true ∧ Wp (compF gs t f vs x.1 (wipeE x.2.1 vs) x.2.2) fun z => z.1.length ≤ BIG ∧ Q (.own z.1, restE x.2.1 z.2.1 vs, z.2.2) := by
  unfold fComp
  rw [wp_bind]
  refine ⟨fun h => h.mono fun x q => ?_, fun h => h.mono fun x q => ?_⟩
  · by_cases k : okAt x.2.1 vs = true
    · rw [if_pos k, wp_bind] at q
      refine ⟨k, q.mono fun z q => ?_⟩
      by_cases l : z.1.length ≤ BIG
      · rw [if_pos l] at q; exact ⟨l, by simpa using q⟩
      · rw [if_neg l] at q; simp at q
    · rw [if_neg k] at q; simp at q
  · rw [if_pos q.1, wp_bind]
    refine q.2.mono fun z q => ?_
    rw [if_pos q.1]; simpa using q.2
/-- one that leaves the frame as it is, its length small -/
theorem wp_map {α : Type} {vs : List Nat} {Q : List D × Env × Ms → Prop} (xs : List α) (g : α → D) (b : α → Bool) (v : α → D)
    (h : ∀ x ∈ xs, Wp (gs (g x) env) fun e => Wp (t e st) fun y => y.1 = b x ∧ y.2.2 = st ∧ if b x = true then Wp (f y.2.1 st) fun z => z.1 = v x ∧ z.2.2 = st ∧ wipeE z.2.1 vs = env else wipeE y.2.1 vs = env)
    (q : Q ((xs.filter b).map v, env, st)) : Wp (compF gs t f vs (xs.map g) env st) Q := by
  suffices H : compF gs t f vs (xs.map g) env st = some ((xs.filter b).map v, env, st) from ⟨_, H, q⟩
  clear q
  induction xs with
  | nil => rfl
  | cons x xs ih =>
    have ih := ih fun y hy => h y (List.mem_cons_of_mem _ hy)
    obtain ⟨e, e1, ⟨b0, e2, s2⟩, e3, h1, h2, h3⟩ := h x List.mem_cons_self
    dsimp only at h1 h2 h3
    subst h1 h2
    show ((gs (g x) env).bind fun env1 => (t env1 s2).bind fun x => if x.1 = true then (f x.2.1 x.2.2).bind fun y => (compF gs t f vs (xs.map g) (wipeE y.2.1 vs) y.2.2).map fun z => (y.1 :: z.1, z.2) else compF gs t f vs (xs.map g) (wipeE x.2.1 vs) x.2.2) = _
    rw [e1]
    simp only [Option.bind_some]
    rw [e3]
    simp only [Option.bind_some]
    by_cases hb : b x = true
    · rw [if_pos hb] at h3 ⊢
      obtain ⟨⟨d, e4, s4⟩, e5, h4, h5, h6⟩ := h3
      dsimp only at h4 h5 h6
      subst h4 h5
      rw [e5]
      simp only [Option.bind_some]
      rw [h6, ih]
      simp [hb]
    · rw [if_neg hb] at h3 ⊢
      rw [h3, ih]
      simp [hb]
/-- one that keeps J of the state, its values R -/
theorem wp_keep {α : Type} {vs : List Nat} {Q : List D × Env × Ms → Prop} (xs : List α) (g : α → D) (J : Ms → Prop) (R : α → D → Prop) (h0 : J st)
    (h : ∀ x ∈ xs, ∀ st, J st → Wp (gs (g x) env) fun e => Wp (t e st) fun y => y.1 = true ∧ Wp (f y.2.1 y.2.2) fun z => R x z.1 ∧ J z.2.2 ∧ wipeE z.2.1 vs = env)
    (q : ∀ ds st, ds.length = xs.length → (∀ (i : Nat) (x : α) (d : D), xs[i]? = some x → ds[i]? = some d → R x d) → J st → Q (ds, env, st)) : Wp (compF gs t f vs (xs.map g) env st) Q := by
  induction xs generalizing st Q with
  | nil => exact ⟨_, rfl, q [] st rfl (fun i x d e => by simp at e) h0⟩
  | cons x xs ih =>
    show Wp ((gs (g x) env).bind fun env1 => (t env1 st).bind fun x => if x.1 = true then (f x.2.1 x.2.2).bind fun y => (compF gs t f vs (xs.map g) (wipeE y.2.1 vs) y.2.2).map fun z => (y.1 :: z.1, z.2) else compF gs t f vs (xs.map g) (wipeE x.2.1 vs) x.2.2) Q
    rw [wp_bind]
    refine (h x List.mem_cons_self st h0).mono fun e q1 => ?_
    rw [wp_bind]
    refine q1.mono fun y q2 => ?_
    rw [if_pos q2.1, wp_bind]
    refine q2.2.mono fun z q3 => ?_
    rw [wp_map', q3.2.2]
    refine ih q3.2.1 (fun y hy => h y (List.mem_cons_of_mem _ hy)) fun ds st' hl hr hj => ?_
    refine q (z.1 :: ds) st' (by simp [hl]) (fun i y d e1 e2 => ?_) hj
    cases i with
    | zero =>
      simp at e1 e2
      subst e1 e2
      exact q3.1
    | succ i => exact hr i y d (by simpa using e1) (by simpa using e2)
end
end Pv

/-! # PvX -/
set_option Elab.async false
set_option linter.all false
set_option maxHeartbeats 1000000
/-! the meanings of the words on given values -/
namespace Pv
open PySem
section
variable {env : Env} {st : Ms} {i j : Int} {d a b : D} {l m : List D} {s : Str}
@[simp] theorem fz_non : D.fz .non = .non := by simp only [D.fz]
@[simp] theorem fz_bl {b : Bool} : D.fz (.bl b) = .bl b := by simp only [D.fz]
@[simp] theorem fz_int : D.fz (.int i) = .int i := by simp only [D.fz]
@[simp] theorem fz_str : D.fz (.str s) = .str s := by simp only [D.fz]
@[simp] theorem fz_lst : D.fz (.lst l) = .lst l := by simp only [D.fz]
@[simp] theorem fz_cell {c : Nat} : D.fz (.cell c) = .cell c := by simp only [D.fz]
@[simp] theorem fz_scr {c : List Int} : D.fz (.scr c) = .scr c := by simp only [D.fz]
@[simp] theorem fz_own : D.fz (.own l) = .lst (D.fzs l) := by simp only [D.fz]
@[simp] theorem fz_tup : D.fz (.tup l) = .tup (D.fzs l) := by simp only [D.fz]
@[simp] theorem fzs_nil : D.fzs [] = [] := by simp only [D.fzs]
@[simp] theorem fzs_cons : D.fzs (d :: l) = d.fz :: D.fzs l := by simp only [D.fzs]
theorem fzs_eq : D.fzs l = l.map D.fz := by
  induction l with
  | nil => simp
  | cons d l ih => simp [ih]
@[simp] theorem fzs_app : D.fzs (l ++ m) = D.fzs l ++ D.fzs m := by simp [fzs_eq]
@[simp] theorem fzs_map {α : Type} {f : α → D} {xs : List α} : D.fzs (xs.map f) = xs.map fun x => (f x).fz := by rw [fzs_eq, List.map_map]; rfl
@[simp] theorem of_non : D.of .non = true := rfl
@[simp] theorem of_bl {b : Bool} : D.of (.bl b) = true := rfl
@[simp] theorem of_int : D.of (.int i) = true := rfl
@[simp] theorem of_str : D.of (.str s) = true := rfl
@[simp] theorem of_lst : D.of (.lst l) = true := rfl
@[simp] theorem of_own : D.of (.own l) = false := rfl
@[simp] theorem of_cell {c : Nat} : D.of (.cell c) = true := rfl
@[simp] theorem of_scr {c : List Int} : D.of (.scr c) = true := rfl
@[simp] theorem of_tup : D.of (.tup l) = D.ofs l := by simp only [D.of]
theorem ofs_eq : D.ofs l = l.all D.of := by
  induction l with
  | nil => simp [D.ofs]
  | cons d l ih => simp [D.ofs, ih]
@[simp] theorem ofs_nil : D.ofs [] = true := by simp [ofs_eq]
@[simp] theorem ofs_cons : D.ofs (d :: l) = (d.of && D.ofs l) := by simp [ofs_eq]
@[simp] theorem ofs_app : D.ofs (l ++ m) = (D.ofs l && D.ofs m) := by simp [ofs_eq]
@[simp] theorem ofs_map {α : Type} {f : α → D} {xs : List α} : D.ofs (xs.map f) = xs.all fun x => (f x).of := by rw [ofs_eq, List.all_map]; rfl
@[simp] theorem nc_non : D.nc .non = true := by simp only [D.nc]
@[simp] theorem nc_bl {b : Bool} : D.nc (.bl b) = true := by simp only [D.nc]
@[simp] theorem nc_int : D.nc (.int i) = true := by simp only [D.nc]
@[simp] theorem nc_str : D.nc (.str s) = true := by simp only [D.nc]
@[simp] theorem nc_scr {c : List Int} : D.nc (.scr c) = true := by simp only [D.nc]
@[simp] theorem nc_cell {c : Nat} : D.nc (.cell c) = false := by simp only [D.nc]
@[simp] theorem nc_lst : D.nc (.lst l) = D.ncs l := by simp only [D.nc]
@[simp] theorem nc_own : D.nc (.own l) = D.ncs l := by simp only [D.nc]
@[simp] theorem nc_tup : D.nc (.tup l) = D.ncs l := by simp only [D.nc]
theorem ncs_eq : D.ncs l = l.all D.nc := by
  induction l with
  | nil => simp [D.ncs]
  | cons d l ih => simp [D.ncs, ih]
@[simp] theorem ncs_nil : D.ncs [] = true := by simp [ncs_eq]
@[simp] theorem ncs_cons : D.ncs (d :: l) = (d.nc && D.ncs l) := by simp [ncs_eq]
@[simp] theorem ncs_map {α : Type} {f : α → D} {xs : List α} : D.ncs (xs.map f) = xs.all fun x => (f x).nc := by rw [ncs_eq, List.all_map]; rfl
@[simp] theorem pl_non : D.pl .non = true := by simp only [D.pl]
@[simp] theorem pl_bl {b : Bool} : D.pl (.bl b) = true := by simp only [D.pl]
@[simp] theorem pl_int : D.pl (.int i) = true := by simp only [D.pl]
@[simp] theorem pl_str : D.pl (.str s) = true := by simp only [D.pl]
@[simp] theorem pl_lst : D.pl (.lst l) = D.pls l := by simp only [D.pl]
@[simp] theorem pl_tup : D.pl (.tup l) = D.pls l := by simp only [D.pl]
theorem pls_eq : D.pls l = l.all D.pl := by
  induction l with
  | nil => simp [D.pls]
  | cons d l ih => simp [D.pls, ih]
@[simp] theorem pls_nil : D.pls [] = true := by simp [pls_eq]
@[simp] theorem pls_cons : D.pls (d :: l) = (d.pl && D.pls l) := by simp [pls_eq]
@[simp] theorem pls_map {α : Type} {f : α → D} {xs : List α} : D.pls (xs.map f) = xs.all fun x => (f x).pl := by rw [pls_eq, List.all_map]; rfl
@[simp] theorem py_non : D.py .non = .none := by simp only [D.py]
@[simp] theorem py_bl {b : Bool} : D.py (.bl b) = .bool b := by simp only [D.py]
@[simp] theorem py_int : D.py (.int i) = .int i := by simp only [D.py]
@[simp] theorem py_str : D.py (.str s) = .str s := by simp only [D.py]
@[simp] theorem py_lst : D.py (.lst l) = .list (D.pys l) := by simp only [D.py]
@[simp] theorem py_own : D.py (.own l) = .list (D.pys l) := by simp only [D.py]
@[simp] theorem py_tup : D.py (.tup l) = .tuple (D.pys l) := by simp only [D.py]
theorem pys_eq : D.pys l = l.map D.py := by
  induction l with
  | nil => simp [D.pys]
  | cons d l ih => simp [D.pys, ih]
@[simp] theorem pys_nil : D.pys [] = [] := by simp [pys_eq]
@[simp] theorem pys_cons : D.pys (d :: l) = d.py :: D.pys l := by simp [pys_eq]
@[simp] theorem pys_map {α : Type} {f : α → D} {xs : List α} : D.pys (xs.map f) = xs.map fun x => (f x).py := by rw [pys_eq, List.map_map]; rfl
@[simp] theorem li_lst : D.li (.lst l) = some l := rfl
@[simp] theorem li_own : D.li (.own l) = if D.ofs l = true then some l else none := rfl
@[simp] theorem li2_lst : D.li2 (.lst l) = some l := rfl
@[simp] theorem li2_own : D.li2 (.own l) = if D.ofs l = true then some l else none := rfl
@[simp] theorem li2_scr {ns : List Int} : D.li2 (.scr ns) = some (ns.map .int) := rfl
/-! words -/
@[simp] theorem addD_ii : addD st (.int i) (.int j) = some (.int (i + j)) := rfl
@[simp] theorem addD_tt : addD st (.tup l) (.tup m) = if D.ofs l = true ∧ D.ofs m = true ∧ l.length + m.length ≤ BIG then some (.tup (l ++ m)) else none := rfl
theorem addD_ll {x y : D} (hx : x.li = some l) (hy : y.li = some m) (h : l.length + m.length ≤ BIG) : addD st x y = some (.own (l ++ m)) := by
  cases x <;> first | (cases hx; done) | skip
  all_goals (cases y <;> first | (cases hy; done) | skip)
  all_goals
    unfold addD
    simp only [hx, hy, Option.bind_some, h, if_true]
@[simp] theorem subD_ii : subD st (.int i) (.int j) = some (.int (i - j)) := rfl
@[simp] theorem mulD_ii : mulD st (.int i) (.int j) = if small64 i = true ∨ small64 j = true then some (.int (i * j)) else none := rfl
@[simp] theorem fdivD_ii : fdivD st (.int i) (.int j) = if small30 j = true then some (.int (i.fdiv j)) else none := rfl
@[simp] theorem modD_ii : modD st (.int i) (.int j) = if j ≠ 0 then some (.int (i.fmod j)) else none := rfl
@[simp] theorem powD_ii : powD st (.int i) (.int j) = if okPow i j = true then some (.int (i ^ j.toNat)) else none := rfl
@[simp] theorem negD_i : negD st (.int i) = some (.int (-i)) := rfl
@[simp] theorem cmpD_ii {p : Int → Int → Bool} : cmpD p st (.int i) (.int j) = some (.bl (p i j)) := rfl
@[simp] theorem eqD_ii : eqD st (.int i) (.int j) = some (.bl (decide (i = j))) := rfl
@[simp] theorem neD_ii : neD st (.int i) (.int j) = some (.bl (!decide (i = j))) := rfl
@[simp] theorem eqD_bb {p q : Bool} : eqD st (.bl p) (.bl q) = some (.bl (decide (p = q))) := rfl
@[simp] theorem neD_bb {p q : Bool} : neD st (.bl p) (.bl q) = some (.bl (!decide (p = q))) := rfl
@[simp] theorem eqD_ss {p q : Str} : eqD st (.str p) (.str q) = some (.bl (decide (p = q))) := rfl
@[simp] theorem neD_ss {p q : Str} : neD st (.str p) (.str q) = some (.bl (!decide (p = q))) := rfl
@[simp] theorem eqD_in : eqD st (.int i) .non = some (.bl false) := rfl
@[simp] theorem neD_in : neD st (.int i) .non = some (.bl true) := rfl
@[simp] theorem isND_non : isND st .non .non = some (.bl true) := rfl
@[simp] theorem isND_int : isND st (.int i) .non = some (.bl false) := rfl
@[simp] theorem isND_bl {p : Bool} : isND st (.bl p) .non = some (.bl false) := rfl
@[simp] theorem isND_str : isND st (.str s) .non = some (.bl false) := rfl
@[simp] theorem isND_tup : isND st (.tup l) .non = some (.bl false) := rfl
@[simp] theorem isND_lst : isND st (.lst l) .non = some (.bl false) := rfl
@[simp] theorem notND_non : notND st .non .non = some (.bl false) := rfl
@[simp] theorem notND_int : notND st (.int i) .non = some (.bl true) := rfl
@[simp] theorem notND_tup : notND st (.tup l) .non = some (.bl true) := rfl
@[simp] theorem ixD_tup : ixD st (.tup l) (.int i) = if D.ofs l = true then L2.atI l i else none := rfl
@[simp] theorem ixD_lst : ixD st (.lst l) (.int i) = L2.atI l i := rfl
@[simp] theorem ixD_own : ixD st (.own l) (.int i) = if D.ofs l = true then L2.atI l i else none := by
  show (D.li (.own l)).bind _ = _
  rw [li_own]
  split <;> simp
@[simp] theorem ixD_cell {c : Nat} : ixD st (.cell c) (.int i) = (st[c]?).bind fun l => L2.atI l i := rfl
@[simp] theorem ixD_scr {ns : List Int} : ixD st (.scr ns) (.int i) = (L2.atI ns i).map .int := rfl
@[simp] theorem lenD_tup : lenD st [.tup l] = some (.int l.length) := rfl
@[simp] theorem lenD_lst : lenD st [.lst l] = some (.int l.length) := rfl
@[simp] theorem lenD_own : lenD st [.own l] = some (.int l.length) := rfl
@[simp] theorem lenD_scr {ns : List Int} : lenD st [.scr ns] = some (.int ns.length) := rfl
@[simp] theorem absD_i : absD st [.int i] = some (.int (if i < 0 then -i else i)) := rfl
@[simp] theorem max2D_ii : max2D st [.int i, .int j] = some (.int (if j > i then j else i)) := rfl
@[simp] theorem min2D_ii : min2D st [.int i, .int j] = some (.int (if j < i then j else i)) := rfl
@[simp] theorem int1D_i : int1D st [.int i] = some (.int i) := rfl
@[simp] theorem sumD_own {ns : List Int} : sumD st [.own (ns.map .int)] = some (.int ns.sum) := by simp [sumD]
@[simp] theorem allD_own {ns : List Bool} : allD st [.own (ns.map .bl)] = some (.bl (ns.all id)) := by simp [allD]
@[simp] theorem anyD_own {ns : List Bool} : anyD st [.own (ns.map .bl)] = some (.bl (ns.any id)) := by simp [anyD]
theorem sumD_map {α : Type} (xs : List α) (f : α → Int) : sumD st [.own (xs.map fun x => .int (f x))] = some (.int (xs.map f).sum) := by
  have := sumD_own (st := st) (ns := xs.map f)
  rwa [List.map_map] at this
theorem allD_map {α : Type} (xs : List α) (f : α → Bool) : allD st [.own (xs.map fun x => .bl (f x))] = some (.bl (xs.all f)) := by
  have := allD_own (st := st) (ns := xs.map f)
  rw [List.map_map] at this
  rw [List.all_map] at this
  exact this
theorem anyD_map {α : Type} (xs : List α) (f : α → Bool) : anyD st [.own (xs.map fun x => .bl (f x))] = some (.bl (xs.any f)) := by
  have := anyD_own (st := st) (ns := xs.map f)
  rw [List.map_map] at this
  rw [List.any_map] at this
  exact this
@[simp] theorem tupD_own : tupD st [.own l] = if D.ofs l = true then some (.tup l) else none := by
  show (D.li (.own l)).map D.tup = _
  rw [li_own]
  split <;> simp
@[simp] theorem tupD_lst : tupD st [.lst l] = some (.tup l) := rfl
@[simp] theorem tupD_tup : tupD st [.tup l] = if D.ofs l = true then some (.tup l) else none := rfl
@[simp] theorem slD_scr {ns : List Int} {lo hi : Option Int} : slD (.scr ns) lo hi = some (.own (cutL (ns.map .int) lo hi)) := rfl
@[simp] theorem slD_tup {lo hi : Option Int} : slD (.tup l) lo hi = if D.ofs l = true then some (.tup (cutL l lo hi)) else none := rfl
@[simp] theorem slD_lst {lo hi : Option Int} : slD (.lst l) lo hi = some (.own (cutL l lo hi)) := rfl
@[simp] theorem isa_ty {T : String} : isaB T d = (d.ty == T || (d.ty == "bool" && T == "int")) := rfl
@[simp] theorem ty_non : D.ty .non = "NoneType" := rfl
@[simp] theorem ty_bl {p : Bool} : D.ty (.bl p) = "bool" := rfl
@[simp] theorem ty_int : D.ty (.int i) = "int" := rfl
@[simp] theorem ty_str : D.ty (.str s) = "str" := rfl
@[simp] theorem ty_tup : D.ty (.tup l) = "tuple" := rfl
@[simp] theorem ty_lst : D.ty (.lst l) = "list" := rfl
@[simp] theorem ty_own : D.ty (.own l) = "list" := rfl
@[simp] theorem BIG_ev : BIG = 1000000 := rfl
theorem atI_nat {α : Type} {xs : List α} {k : Nat} : L2.atI xs (k : Int) = xs[k]? := by
  unfold L2.atI L2.ixN
  by_cases h : k < xs.length
  · simp [h]
  · simp [h]
theorem steps_eq {lo c : Int} {n : Nat} : steps lo c n = (List.range n).map fun (i : Nat) => D.int (lo + (i : Int) * c) := rfl
theorem fin_same {r : D} (h : st.length = st.length) : fin st r st = some (r, st) := by unfold fin; simp
/-- a def's call, by its body -/
theorem wp_mkFn {n np : Nat} {body : SS} {ds : List D} {Q : D × Ms → Prop} (hl : ds.length = np) (h : Wp (body (ds.map some ++ List.replicate (n - np) none) st) fun r => match r with
    | .rt r st' => st'.length = st.length ∧ Q (r, st')
    | .nx _ st' => st'.length = st.length ∧ Q (.non, st')
    | _ => False) : Wp (mkFn n np body ds st) Q := by
  obtain ⟨r, e, q⟩ := h
  unfold mkFn
  rw [if_pos hl, e]
  cases r with
  | rt r st' => refine ⟨(r, st'), ?_, q.2⟩; simp [fin, q.1]
  | nx e st' => refine ⟨(.non, st'), ?_, q.2⟩; simp [fin, q.1]
  | bk _ _ => exact q.elim
  | ct _ _ => exact q.elim
/-- one that ends with a new cell -/
theorem wp_mkFn2 {n np : Nat} {body : SS} {ds : List D} {Q : D × Ms → Prop} (hl : ds.length = np) (h : Wp (body (ds.map some ++ List.replicate (n - np) none) st) fun r => match r with
    | .rt r st' => st.length ≤ st'.length ∧ r.nc = true ∧ Q (r, st'.take st.length)
    | _ => False) : Wp (mkFn n np body ds st) Q := by
  obtain ⟨r, e, q⟩ := h
  unfold mkFn
  rw [if_pos hl, e]
  cases r with
  | rt r st' =>
    obtain ⟨q1, q2, q3⟩ := q
    refine ⟨(r, st'.take st.length), ?_, q3⟩
    show fin st r st' = _
    unfold fin
    by_cases hl : st'.length = st.length
    · rw [if_pos hl, ← hl, List.take_length]
    · rw [if_neg hl, if_pos ⟨q2, q1⟩]
  | nx e st' => exact q.elim
  | bk _ _ => exact q.elim
  | ct _ _ => exact q.elim
end
/-! shared mathematics -/
theorem fmod_rng {a n : Int} (h : 0 < n) : 0 ≤ a.fmod n ∧ a.fmod n < n := ⟨Int.fmod_nonneg_of_pos a h, Int.fmod_lt_of_pos a h⟩
theorem fdiv_nn {a n : Int} (h : 0 < n) (ha : 0 ≤ a) : 0 ≤ a.fdiv n := by
  rw [Int.fdiv_eq_ediv_of_nonneg _ (Int.le_of_lt h)]
  exact Int.ediv_nonneg ha (Int.le_of_lt h)
theorem cut_01 {α : Type} (xs : List α) : cutL xs none (some 1) = xs.take 1 := by
  cases xs with
  | nil => simp [cutL]
  | cons x r => simp [cutL, HT.sIx]
/-- the pot -/
def PotOk (st : Ms) : Prop := ∃ a b : Int, st = [[.int a, .int b]] ∧ 0 ≤ a ∧ 0 ≤ b ∧ b < 2147483648
theorem PotOk.len {st : Ms} (h : PotOk st) : st.length = 1 := by
  obtain ⟨a, b, rfl, _⟩ := h
  rfl
theorem ints_of {P : Int → Prop} : ∀ {ds : List D}, (∀ d ∈ ds, ∃ i : Int, d = .int i ∧ P i) → ∃ is : List Int, ds = is.map .int ∧ is.length = ds.length ∧ ∀ i ∈ is, P i
  | [], _ => ⟨[], rfl, rfl, fun i h => nomatch h⟩
  | d :: ds, h => by
    obtain ⟨is, e, l, q⟩ := ints_of fun d hd => h d (List.mem_cons_of_mem _ hd)
    obtain ⟨i, rfl, h2⟩ := h d List.mem_cons_self
    exact ⟨i :: is, by rw [e]; rfl, by simp [l], fun j hj => by
      rcases List.mem_cons.mp hj with rfl | hj
      · exact h2
      · exact q j hj⟩
/-- values drawn one by one -/
theorem wp_draws {env : Env} {st : Ms} {f : ES} {t : BS} {gs : GS} {vs : List Nat} {Q : List D × Env × Ms → Prop} {α : Type} (xs : List α) (g : α → D) (J : Ms → Prop) (R : D → Prop) (h0 : J st)
    (h : ∀ x ∈ xs, ∀ st, J st → Wp (gs (g x) env) fun e => Wp (t e st) fun y => y.1 = true ∧ Wp (f y.2.1 y.2.2) fun z => R z.1 ∧ J z.2.2 ∧ wipeE z.2.1 vs = env)
    (q : ∀ ds st, ds.length = xs.length → (∀ d ∈ ds, R d) → J st → Q (ds, env, st)) : Wp (compF gs t f vs (xs.map g) env st) Q := by
  refine wp_keep xs g J (fun _ d => R d) h0 h fun ds st hl hr hj => q ds st hl (fun d hd => ?_) hj
  obtain ⟨i, hi, e⟩ := List.mem_iff_getElem.mp hd
  exact hr i (xs[i]'(hl ▸ hi)) d (List.getElem?_eq_getElem _) (by rw [List.getElem?_eq_getElem hi, e])
@[simp] theorem atI_0 {α : Type} {xs : List α} : L2.atI xs 0 = xs[0]? := atI_nat (k := 0)
@[simp] theorem atI_1 {α : Type} {xs : List α} : L2.atI xs 1 = xs[1]? := atI_nat (k := 1)
@[simp] theorem atI_2 {α : Type} {xs : List α} : L2.atI xs 2 = xs[2]? := atI_nat (k := 2)
@[simp] theorem atI_3 {α : Type} {xs : List α} : L2.atI xs 3 = xs[3]? := atI_nat (k := 3)
@[simp] theorem atI_m1 {α : Type} {xs : List α} : L2.atI xs (-1) = xs.getLast? := by
  unfold L2.atI L2.ixN
  rw [List.getLast?_eq_getElem?]
  cases xs with
  | nil => simp
  | cons x r =>
    simp
    have e : ((-1 : Int) + ((r.length : Int) + 1)) = (r.length : Int) := by omega
    first
      | rw [if_pos (by omega)]; simp [e]
      | simp [e]
/-- every value kept -/
theorem wp_each {env : Env} {st : Ms} {f : ES} {gs : GS} {vs : List Nat} {Q : List D × Env × Ms → Prop} {α : Type} (xs : List α) (g : α → D) (v : α → D)
    (h : ∀ x ∈ xs, Wp (gs (g x) env) fun e => Wp (f e st) fun z => z.1 = v x ∧ z.2.2 = st ∧ wipeE z.2.1 vs = env)
    (q : Q (xs.map v, env, st)) : Wp (compF gs bYes f vs (xs.map g) env st) Q :=
  wp_map xs g (fun _ => true) v (fun x hx => (h x hx).mono fun e w => by simpa using w) (by rw [List.filter_eq_self.mpr fun _ _ => rfl]; exact q)
end Pv

/-! # PvY -/
set_option Elab.async false
set_option linter.all false
set_option maxHeartbeats 1000000
/-! likeness, order and text of given values -/
namespace Pv
open PySem
@[simp] theorem lay_non : PyData.canLay0 .none = true := by simp [PyData.canLay0]
@[simp] theorem lay_bl {b : Bool} : PyData.canLay0 (.bool b) = true := by simp [PyData.canLay0]
@[simp] theorem lay_int {i : Int} : PyData.canLay0 (.int i) = true := by simp [PyData.canLay0]
@[simp] theorem lay_str {s : Str} : PyData.canLay0 (.str s) = PyData.strOk s := by simp [PyData.canLay0]
@[simp] theorem lay_list {l : List PyData} : PyData.canLay0 (.list l) = PyData.canLayAll0 l := by simp [PyData.canLay0]
@[simp] theorem lay_tuple {l : List PyData} : PyData.canLay0 (.tuple l) = PyData.canLayAll0 l := by simp [PyData.canLay0]
theorem layAll_eq {l : List PyData} : PyData.canLayAll0 l = l.all PyData.canLay0 := by
  induction l with
  | nil => simp [PyData.canLayAll0]
  | cons d l ih => simp [PyData.canLayAll0, ih]
@[simp] theorem layAll_nil : PyData.canLayAll0 [] = true := by simp [layAll_eq]
@[simp] theorem layAll_cons {d : PyData} {l : List PyData} : PyData.canLayAll0 (d :: l) = (d.canLay0 && PyData.canLayAll0 l) := by simp [layAll_eq]
@[simp] theorem layAll_map {α : Type} {f : α → PyData} {xs : List α} : PyData.canLayAll0 (xs.map f) = xs.all fun x => (f x).canLay0 := by rw [layAll_eq, List.all_map]; rfl
section
variable {st : Ms} {l m : List D} {a b d : D}
theorem depAll_le {k : Nat} : ∀ {l : List PyData}, (∀ x ∈ l, x.depth ≤ k) → PyData.depthAll l ≤ k
  | [], _ => by simp [PyData.depthAll]
  | x :: l, h => by
    simp only [PyData.depthAll]
    exact Nat.max_le.mpr ⟨h x List.mem_cons_self, depAll_le fun y hy => h y (List.mem_cons_of_mem _ hy)⟩
@[simp] theorem dep_int {i : Int} : PyData.depth (.int i) = 0 := by simp [PyData.depth]
@[simp] theorem dep_non : PyData.depth .none = 0 := by simp [PyData.depth]
@[simp] theorem dep_str {s : Str} : PyData.depth (.str s) = 0 := by simp [PyData.depth]
@[simp] theorem dep_bl {s : Bool} : PyData.depth (.bool s) = 0 := by simp [PyData.depth]
@[simp] theorem dep_list {l : List PyData} : PyData.depth (.list l) = PyData.depthAll l + 1 := by simp [PyData.depth]
@[simp] theorem dep_tuple {l : List PyData} : PyData.depth (.tuple l) = PyData.depthAll l + 1 := by simp [PyData.depth]
@[simp] theorem depAll_nil : PyData.depthAll [] = 0 := by simp [PyData.depthAll]
@[simp] theorem depAll_cons {x : PyData} {l : List PyData} : PyData.depthAll (x :: l) = max x.depth (PyData.depthAll l) := by simp [PyData.depthAll]
@[simp] theorem depAll_ints {xs : List Int} : PyData.depthAll (xs.map fun i => PyData.int i) = 0 := Nat.le_zero.mp (depAll_le fun x hx => by
  obtain ⟨i, _, rfl⟩ := List.mem_map.mp hx
  simp)
theorem depAll_map {α : Type} {xs : List α} {f : α → PyData} {k : Nat} (h : ∀ x ∈ xs, (f x).depth ≤ k) : PyData.depthAll (xs.map f) ≤ k := depAll_le fun y hy => by
  obtain ⟨x, hx, rfl⟩ := List.mem_map.mp hy
  exact h x hx
/-- a seq's value -/
def D.isSq : D → Bool
  | .tup _ => true | .lst _ => true | .own _ => true
  | _ => false
theorem eqB_sq (ha : a.isSq = true) (hb : b.isSq = true) (na : a.nc = true) (nb : b.nc = true) (ca : a.py.canLay0 = true) (cb : b.py.canLay0 = true) (da : a.py.depth ≤ 64) (db : b.py.depth ≤ 64) : eqB a b = some (PyData.eqv a.py b.py) := by
  have sa : SeqAt.shaped a.py = true := by simp [SeqAt.shaped, ca, da]
  have sb : SeqAt.shaped b.py = true := by simp [SeqAt.shaped, cb, db]
  cases a <;> first | (cases ha; done) | skip
  all_goals (cases b <;> first | (cases hb; done) | skip)
  all_goals exact if_pos ⟨na, nb, sa, sb⟩
theorem eqD_sq (ha : a.isSq = true) (hb : b.isSq = true) (na : a.nc = true) (nb : b.nc = true) (ca : a.py.canLay0 = true) (cb : b.py.canLay0 = true) (da : a.py.depth ≤ 64) (db : b.py.depth ≤ 64) : eqD st a b = some (.bl (PyData.eqv a.py b.py)) := by
  unfold eqD; rw [eqB_sq ha hb na nb ca cb da db]; rfl
theorem neD_sq (ha : a.isSq = true) (hb : b.isSq = true) (na : a.nc = true) (nb : b.nc = true) (ca : a.py.canLay0 = true) (cb : b.py.canLay0 = true) (da : a.py.depth ≤ 64) (db : b.py.depth ≤ 64) : neD st a b = some (.bl (!PyData.eqv a.py b.py)) := by
  unfold neD; rw [eqB_sq ha hb na nb ca cb da db]; rfl
@[simp] theorem eqv_int {i j : Int} : PyData.eqv (.int i) (.int j) = (i == j) := by simp [PyData.eqv]
@[simp] theorem eqv_list {a b : List PyData} : PyData.eqv (.list a) (.list b) = PyData.eqvAll a b := by simp [PyData.eqv]
@[simp] theorem eqv_tuple {a b : List PyData} : PyData.eqv (.tuple a) (.tuple b) = PyData.eqvAll a b := by simp [PyData.eqv]
@[simp] theorem eqvAll_nn : PyData.eqvAll [] [] = true := by simp [PyData.eqvAll]
@[simp] theorem eqvAll_cn {a : PyData} {b : List PyData} : PyData.eqvAll (a :: b) [] = false := by simp [PyData.eqvAll]
@[simp] theorem eqvAll_nc {a : PyData} {b : List PyData} : PyData.eqvAll [] (a :: b) = false := by simp [PyData.eqvAll]
@[simp] theorem eqvAll_cc {a c : PyData} {b d : List PyData} : PyData.eqvAll (a :: b) (c :: d) = (PyData.eqv a c && PyData.eqvAll b d) := by simp [PyData.eqvAll]
theorem eqvAll_nil_r {l : List PyData} : PyData.eqvAll l [] = l.isEmpty := by cases l <;> simp
/-- is it []? -/
theorem eqD_nil_own (n : D.ncs l = true) (cl : PyData.canLayAll0 (D.pys l) = true) (dl : PyData.depthAll (D.pys l) ≤ 63) : eqD st (.own l) (.own []) = some (.bl l.isEmpty) := by
  rw [eqD_sq rfl rfl (by simpa using n) (by simp) (by simpa using cl) (by simp) (by simpa using dl) (by simp)]
  simp [eqvAll_nil_r, pys_eq]
theorem neD_nil_own (n : D.ncs l = true) (cl : PyData.canLayAll0 (D.pys l) = true) (dl : PyData.depthAll (D.pys l) ≤ 63) : neD st (.own l) (.own []) = some (.bl (!l.isEmpty)) := by
  rw [neD_sq rfl rfl (by simpa using n) (by simp) (by simpa using cl) (by simp) (by simpa using dl) (by simp)]
  simp [eqvAll_nil_r, pys_eq]
theorem eqD_nil_lst (n : D.ncs l = true) (cl : PyData.canLayAll0 (D.pys l) = true) (dl : PyData.depthAll (D.pys l) ≤ 63) : eqD st (.lst l) (.own []) = some (.bl l.isEmpty) := by
  rw [eqD_sq rfl rfl (by simpa using n) (by simp) (by simpa using cl) (by simp) (by simpa using dl) (by simp)]
  simp [eqvAll_nil_r, pys_eq]
theorem neD_nil_lst (n : D.ncs l = true) (cl : PyData.canLayAll0 (D.pys l) = true) (dl : PyData.depthAll (D.pys l) ≤ 63) : neD st (.lst l) (.own []) = some (.bl (!l.isEmpty)) := by
  rw [neD_sq rfl rfl (by simpa using n) (by simp) (by simpa using cl) (by simp) (by simpa using dl) (by simp)]
  simp [eqvAll_nil_r, pys_eq]
theorem eqD_nil_tup (n : D.ncs l = true) (cl : PyData.canLayAll0 (D.pys l) = true) (dl : PyData.depthAll (D.pys l) ≤ 63) : eqD st (.tup l) (.tup []) = some (.bl l.isEmpty) := by
  rw [eqD_sq rfl rfl (by simpa using n) (by simp) (by simpa using cl) (by simp) (by simpa using dl) (by simp)]
  simp [eqvAll_nil_r, pys_eq]
theorem neD_nil_tup (n : D.ncs l = true) (cl : PyData.canLayAll0 (D.pys l) = true) (dl : PyData.depthAll (D.pys l) ≤ 63) : neD st (.tup l) (.tup []) = some (.bl (!l.isEmpty)) := by
  rw [neD_sq rfl rfl (by simpa using n) (by simp) (by simpa using cl) (by simp) (by simpa using dl) (by simp)]
  simp [eqvAll_nil_r, pys_eq]
theorem eqvAll_ints : ∀ xs ys : List Int, PyData.eqvAll (xs.map fun i => PyData.int i) (ys.map fun i => PyData.int i) = decide (xs = ys)
  | [], [] => by simp
  | [], y :: ys => by simp
  | x :: xs, [] => by simp
  | x :: xs, y :: ys => by
    simp [eqvAll_ints xs ys]
    by_cases h : x = y <;> simp [h]
/-! order -/
@[simp] theorem alike_int {i j : Int} : W.alike (.int i) (.int j) = true := by simp [W.alike]
@[simp] theorem alike_tuple {a b : List PyData} : W.alike (.tuple a) (.tuple b) = W.alikeAll a b := by simp [W.alike]
@[simp] theorem alikeAll_cn {a : PyData} {b : List PyData} : W.alikeAll (a :: b) [] = true := by simp [W.alikeAll]
@[simp] theorem alikeAll_nil {b : List PyData} : W.alikeAll [] b = true := by simp [W.alikeAll]
@[simp] theorem alikeAll_cc {a c : PyData} {b d : List PyData} : W.alikeAll (a :: b) (c :: d) = (W.alike a c && W.alikeAll b d) := by simp [W.alikeAll]
theorem alikeAll_ints : ∀ xs ys : List Int, W.alikeAll (xs.map fun i => PyData.int i) (ys.map fun i => PyData.int i) = true
  | [], _ => by simp
  | x :: xs, [] => by simp
  | x :: xs, y :: ys => by simp [alikeAll_ints xs ys]
theorem alikeB_map {α : Type} {xs : List α} {f : α → PyData} (h : ∀ x ∈ xs, ∀ y ∈ xs, W.alike (f x) (f y) = true) (hn : ∀ x ∈ xs, f x ≠ .none) : alikeB (xs.map f) = true := by
  unfold alikeB
  simp only [Bool.and_eq_true, List.all_eq_true, List.mem_map, forall_exists_index, and_imp, forall_apply_eq_imp_iff₂]
  refine ⟨h, fun x hx => ?_⟩
  have := hn x hx
  split
  · rename_i e; exact absurd e this
  · rfl
@[simp] theorem ofPy_int {i : Int} : ofPy (.int i) = .int i := by simp only [ofPy]
theorem ext_max {x : Int} {r : List Int} : extD W.maxD st [.own ((x :: r).map .int)] = some (.int (r.foldl max x)) := by
  have h : D.pls ((x :: r).map .int) = true ∧ alikeB (D.pys ((x :: r).map .int)) = true ∧ PyData.depthAll (D.pys ((x :: r).map .int)) ≤ 60 := by
    refine ⟨by simp, ?_, by simp⟩
    have := alikeB_map (xs := x :: r) (f := fun i => PyData.int i) (by simp) (by simp)
    simpa using this
  show (D.li (.own ((x :: r).map .int))).bind _ = _
  rw [li_own, if_pos (by simp)]
  show (if _ then some (ofPy (W.maxD (D.py (.int x)) (D.pys (r.map .int)))) else none) = _
  rw [List.map_cons] at h
  rw [if_pos h, py_int, pys_map]
  simp only [py_int]
  rw [W.maxD_ints, ofPy_int]
theorem ext_max_lst {x : Int} {r : List Int} : extD W.maxD st [.lst ((x :: r).map .int)] = some (.int (r.foldl max x)) := by
  have e := ext_max (st := st) (x := x) (r := r)
  unfold extD at e ⊢
  simpa only [li_own, li_lst, ofs_map, of_int, List.all_eq_true, implies_true, if_true] using e
@[simp] theorem addD_oo : addD st (.own l) (.own m) = if D.ofs l = true ∧ D.ofs m = true ∧ l.length + m.length ≤ BIG then some (.own (l ++ m)) else none := by
  by_cases h1 : D.ofs l = true
  · by_cases h2 : D.ofs m = true
    · by_cases h3 : l.length + m.length ≤ BIG
      · rw [if_pos ⟨h1, h2, h3⟩]
        exact addD_ll (by simp [h1]) (by simp [h2]) h3
      · rw [if_neg fun z => h3 z.2.2]
        show (D.li (.own l)).bind _ = _
        rw [li_own, if_pos h1]
        show (D.li (.own m)).bind _ = _
        rw [li_own, if_pos h2]
        exact if_neg h3
    · rw [if_neg fun z => h2 z.2.1]
      show (D.li (.own l)).bind _ = _
      rw [li_own, if_pos h1]
      show (D.li (.own m)).bind _ = _
      rw [li_own, if_neg h2]
      rfl
  · rw [if_neg fun z => h1 z.1]
    show (D.li (.own l)).bind _ = _
    rw [li_own, if_neg h1]
    rfl
@[simp] theorem addD_ol : addD st (.own l) (.lst m) = if D.ofs l = true ∧ l.length + m.length ≤ BIG then some (.own (l ++ m)) else none := by
  by_cases h1 : D.ofs l = true
  · by_cases h3 : l.length + m.length ≤ BIG
    · rw [if_pos ⟨h1, h3⟩]
      exact addD_ll (by simp [h1]) rfl h3
    · rw [if_neg fun z => h3 z.2]
      show (D.li (.own l)).bind _ = _
      rw [li_own, if_pos h1]
      exact if_neg h3
  · rw [if_neg fun z => h1 z.1]
    show (D.li (.own l)).bind _ = _
    rw [li_own, if_neg h1]
    rfl
@[simp] theorem addD_lo : addD st (.lst l) (.own m) = if D.ofs m = true ∧ l.length + m.length ≤ BIG then some (.own (l ++ m)) else none := by
  by_cases h1 : D.ofs m = true
  · by_cases h3 : l.length + m.length ≤ BIG
    · rw [if_pos ⟨h1, h3⟩]
      exact addD_ll rfl (by simp [h1]) h3
    · rw [if_neg fun z => h3 z.2]
      show (D.li (.own m)).bind _ = _
      rw [li_own, if_pos h1]
      exact if_neg h3
  · rw [if_neg fun z => h1 z.1]
    show (D.li (.own m)).bind _ = _
    rw [li_own, if_neg h1]
    rfl
@[simp] theorem addD_lstlst : addD st (.lst l) (.lst m) = if l.length + m.length ≤ BIG then some (.own (l ++ m)) else none := rfl
theorem cut_0n {α : Type} (xs : List α) (n : Nat) : cutL xs none (some (n : Int)) = xs.take n := by
  unfold cutL
  have e : HT.sIx xs.length xs.length (some (n : Int)) = min n xs.length := by
    simp only [HT.sIx]
    rw [if_neg (by omega)]
    simp
  rw [e]
  simp [HT.sIx]
end
@[simp] theorem ex2 {α β : Type} {x : α} {y : β} {P : α → β → Prop} : (∃ a b, (x = a ∧ y = b) ∧ P a b) ↔ P x y := ⟨fun ⟨a, b, ⟨e1, e2⟩, h⟩ => by subst e1 e2; exact h, fun h => ⟨x, y, ⟨rfl, rfl⟩, h⟩⟩
@[simp] theorem ex3 {α β γ : Type} {x : α} {y : β} {z : γ} {P : α → β → γ → Prop} : (∃ a b c, (x = a ∧ y = b ∧ z = c) ∧ P a b c) ↔ P x y z := ⟨fun ⟨a, b, c, ⟨e1, e2, e3⟩, h⟩ => by subst e1 e2 e3; exact h, fun h => ⟨x, y, z, ⟨rfl, rfl, rfl⟩, h⟩⟩
theorem wp_step {α : Type} {o : Option α} {Q : α → Prop} {x : α} (h : o = some x) (q : Q x) : Wp o Q := ⟨x, h, q⟩
theorem wp_val {f : ES} {env : Env} {st : Ms} {Q : D × Env × Ms → Prop} (d : D) (h : f env st = some (d, env, st)) (q : Q (d, env, st)) : Wp (f env st) Q := ⟨_, h, q⟩
end Pv

/-! # PvR -/
set_option Elab.async false
set_option linter.all false
set_option maxHeartbeats 1000000
/-! the text of a value: it is short enough -/
namespace Pv
open PySem
@[simp] theorem show_int {i : Int} : PyData.showable (.int i) = decide (i.natAbs.log2 < 1920) := by simp [PyData.showable]
@[simp] theorem show_str {s : Str} : PyData.showable (.str s) = true := by simp [PyData.showable]
@[simp] theorem show_non : PyData.showable .none = true := by simp [PyData.showable]
@[simp] theorem show_bl {b : Bool} : PyData.showable (.bool b) = true := by simp [PyData.showable]
@[simp] theorem show_tuple {l : List PyData} : PyData.showable (.tuple l) = PyData.showableAll l := by simp [PyData.showable]
@[simp] theorem show_list {l : List PyData} : PyData.showable (.list l) = PyData.showableAll l := by simp [PyData.showable]
theorem showAll_eq {l : List PyData} : PyData.showableAll l = l.all PyData.showable := by
  induction l with
  | nil => simp [PyData.showableAll]
  | cons d l ih => simp [PyData.showableAll, ih]
theorem shownAll_eq {l : List PyData} : PyData.shownAll l = l.map PyData.shown := by
  induction l with
  | nil => simp [PyData.shownAll]
  | cons d l ih => simp [PyData.shownAll, ih]
theorem shown_tuple {l : List PyData} : PyData.shown (.tuple l) = tupleText (l.map PyData.shown) := by simp [PyData.shown, shownAll_eq]
theorem shown_list {l : List PyData} : PyData.shown (.list l) = listText (l.map PyData.shown) := by simp [PyData.shown, shownAll_eq]
theorem shown_int {i : Int} : PyData.shown (.int i) = Str.ofString i.repr := by simp [PyData.shown]
theorem shown_str {i : Str} : PyData.shown (.str i) = reprText i := by simp [PyData.shown]
theorem piled_le {b : Nat} : ∀ {ts : List Str}, (∀ t ∈ ts, t.length ≤ b) → piled ts ≤ ts.length * (b + 2)
  | [], _ => by simp [piled]
  | t :: ts, h => by
    have ih := piled_le fun t ht => h t (List.mem_cons_of_mem _ ht)
    have h0 := h t List.mem_cons_self
    rw [List.length_cons, Nat.succ_mul, piled_cons]
    omega
theorem tt_len (ts : List Str) : (tupleText ts).length ≤ piled ts + 4 := by
  have a : ∀ x y : Str, (x ++ y).length = x.length + y.length := fun x y => by
    show (x.cps ++ y.cps).size = _
    rw [Array.size_append]; rfl
  have e : (Str.ofString (if (ts.length == 1) = true then ",)" else ")")).length ≤ 2 := by split <;> decide
  have e1 : (Str.ofString "(").length = 1 := by decide
  unfold tupleText
  rw [a, a, e1]
  cases ts with
  | nil =>
    have : (Str.join (Str.ofString ", ") []).length = 0 := by rfl
    omega
  | cons t ts =>
    have := join_length_add (t :: ts) (by simp)
    omega
theorem shown_tup_le {α : Type} {xs : List α} {f : α → PyData} {b : Nat} (h : ∀ x ∈ xs, (f x).shown.length ≤ b) : (PyData.shown (.tuple (xs.map f))).length ≤ xs.length * (b + 2) + 4 := by
  rw [shown_tuple]
  refine Nat.le_trans (tt_len _) (Nat.add_le_add_right ?_ 4)
  refine Nat.le_trans (piled_le (b := b) fun t ht => ?_) (by simp)
  simp at ht
  obtain ⟨x, hx, rfl⟩ := ht
  exact h x hx
theorem int_short_all : ∀ n ∈ List.range 2001, (Str.ofString (((n : Int) - 1000).repr)).length ≤ 5 := by decide +kernel
theorem int_short {i : Int} (h : -1000 ≤ i) (h2 : i ≤ 1000) : (PyData.shown (.int i)).length ≤ 5 := by
  rw [shown_int]
  have := int_short_all (i + 1000).toNat (List.mem_range.mpr (by omega))
  rwa [show (((i + 1000).toNat : Nat) : Int) - 1000 = i by omega] at this
theorem int_shows {i : Int} (h : -1000 ≤ i) (h2 : i ≤ 1000) : PyData.showable (.int i) = true := by
  rw [show_int, decide_eq_true_eq]
  have h3 : i.natAbs < 2 ^ 11 := by omega
  by_cases h0 : i.natAbs = 0
  · rw [h0]; decide
  · have := (Nat.log2_lt h0).mpr h3
    omega
end Pv

/-! # PvZ -/
set_option Elab.async false
set_option linter.all false
set_option maxHeartbeats 1000000
set_option maxRecDepth 10000
/-! the law's own comparison, of a value with itself -/
namespace Pv
open PySem
def F_same (m : FS) : SS := (sSeq (sIf (fB (fBin isND (fPk 1) (fC .non))) (sRet (fBin isND (fPk 0) (fC .non))) sNil)
  (sSeq (sIf (fB (fIsa "bool" (fPk 1))) (sRet (fAnd (fIsa "bool" (fPk 0)) (fBin eqD (fPk 0) (fPk 1)))) sNil)
  (sSeq (sIf (fB (fIsa "str" (fPk 1))) (sRet (fAnd (fIsa "str" (fPk 0)) (fBin eqD (fPk 0) (fPk 1)))) sNil)
  (sSeq (sIf (fB (fIsa "int" (fPk 1))) (sRet (fAnd (fIsa "int" (fPk 0)) (fAnd (fNot (fIsa "bool" (fPk 0))) (fBin eqD (fPk 0) (fPk 1))))) sNil)
  (sSeq (sIf (fB (fIsa "tuple" (fPk 1))) (sSeq (sIf (bOr (bNot (fB (fIsa "tuple" (fPk 0)))) (fB (fBin neD (fCl lenD (aCons (fPk 0) aNil)) (fCl lenD (aCons (fPk 1) aNil))))) (sRet (fC (.bl false))) sNil)
  (sRet (fCl allD (aCons (fComp (wZip (aCons (fVar 0) (aCons (fVar 1) aNil))) (gTupS (gConsS (gN 2) (gConsS (gN 3) gNilS)) 2) bYes (fCall m (aCons (fVar 2) (aCons (fVar 3) aNil))) [2, 3]) aNil)))) sNil)
  (sSeq (sIf (fB (fIsa "list" (fPk 1))) (sSeq (sIf (bOr (bNot (fB (fIsa "list" (fPk 0)))) (fB (fBin neD (fCl lenD (aCons (fPk 0) aNil)) (fCl lenD (aCons (fPk 1) aNil))))) (sRet (fC (.bl false))) sNil)
  (sRet (fCl allD (aCons (fComp (wZip (aCons (fVar 0) (aCons (fVar 1) aNil))) (gTupS (gConsS (gN 2) (gConsS (gN 3) gNilS)) 2) bYes (fCall m (aCons (fVar 2) (aCons (fVar 3) aNil))) [2, 3]) aNil)))) sNil)
  (sRet (fBin eqD (fPk 0) (fPk 1)))))))))
def m_same_n : Nat → FS
  | 0 => fun _ _ => none
  | n + 1 => mkFn 4 2 (F_same (m_same_n n))
mutual
/-- plain, k deep at most, its lengths small -/
def D.ok : Nat → D → Bool
  | _, .non => true | _, .bl _ => true | _, .int _ => true | _, .str _ => true
  | k + 1, .tup l => decide (l.length ≤ 1000000) && D.oks k l
  | k + 1, .lst l => decide (l.length ≤ 1000000) && D.oks k l
  | _, _ => false
def D.oks : Nat → List D → Bool
  | _, [] => true
  | k, d :: l => D.ok k d && D.oks k l
end
theorem oks_all {k : Nat} : ∀ {l : List D}, D.oks k l = true → ∀ d ∈ l, D.ok k d = true
  | [], _, d, h => nomatch h
  | e :: l, h, d, hd => by
    simp only [D.oks, Bool.and_eq_true] at h
    rcases List.mem_cons.mp hd with rfl | hd
    · exact h.1
    · exact oks_all h.2 d hd
theorem oks_of {k : Nat} : ∀ {l : List D}, (∀ d ∈ l, D.ok k d = true) → D.oks k l = true
  | [], _ => by simp only [D.oks]
  | e :: l, h => by
    simp only [D.oks, Bool.and_eq_true]
    exact ⟨h e List.mem_cons_self, oks_of fun d hd => h d (List.mem_cons_of_mem _ hd)⟩
theorem ok_fz : ∀ {k : Nat} {d : D}, D.ok k d = true → d.fz = d
  | k, .non, _ => by simp
  | k, .bl _, _ => by simp
  | k, .int _, _ => by simp
  | k, .str _, _ => by simp
  | k, .lst _, _ => by simp
  | 0, .tup l, h => by simp only [D.ok] at h; cases h
  | k + 1, .tup l, h => by
    simp only [D.ok, Bool.and_eq_true] at h
    simp only [fz_tup, fzs_eq, D.tup.injEq]
    conv => rhs; rw [← List.map_id l]
    exact List.map_congr_left fun d hd => ok_fz (oks_all h.2 d hd)
  | k, .own l, h => by cases k <;> simp only [D.ok] at h <;> cases h
  | k, .cell l, h => by cases k <;> simp only [D.ok] at h <;> cases h
  | k, .scr l, h => by cases k <;> simp only [D.ok] at h <;> cases h
theorem zipD_self (l : List D) : zipD l l = l.map fun x => .tup [x, x] := by
  unfold zipD
  rw [List.zipWith_self]
theorem same_refl : ∀ (k : Nat) (d : D) (st : Ms), D.ok k d = true → m_same_n (k + 1) [d, d] st = some (.bl true, st) := by
  intro k
  induction k with
  | zero =>
    intro d st h
    rw [← wp_eq]
    refine wp_mkFn (by rfl) ?_
    cases d <;> first | (simp only [D.ok] at h; cases h; done) | skip
    all_goals simp [F_same, isND]
    all_goals simp [isN]
  | succ k ih =>
    intro d st h
    rw [← wp_eq]
    refine wp_mkFn (by rfl) ?_
    cases d with
    | non => simp [F_same, isND, isN]
    | bl b => simp [F_same, isND, isN]
    | int b => simp [F_same, isND, isN]
    | str b => simp [F_same, isND, isN]
    | tup l =>
      have hf := ok_fz h
      simp only [D.ok, Bool.and_eq_true, decide_eq_true_eq] at h
      rw [fz_tup, D.tup.injEq] at hf
      simp [F_same, isND, isN, wp_fComp, okAt, wipeE, restE, hf]
      rw [zipD_self]
      refine wp_each (α := D) l _ (fun _ => .bl true) (fun x hx => ?_) ?_
      · have hx2 := oks_all h.2 x hx
        simp [ih x st hx2, ok_fz hx2, wipeE]
      · simp only [List.length_map]
        exact ⟨h.1, wp_step (allD_map l (fun _ => true)) (by simp)⟩
    | lst l =>
      simp only [D.ok, Bool.and_eq_true, decide_eq_true_eq] at h
      simp [F_same, isND, isN, wp_fComp, okAt, wipeE, restE]
      rw [zipD_self]
      refine wp_each (α := D) l _ (fun _ => .bl true) (fun x hx => ?_) ?_
      · have hx2 := oks_all h.2 x hx
        simp [ih x st hx2, ok_fz hx2, wipeE]
      · simp only [List.length_map]
        exact ⟨h.1, wp_step (allD_map l (fun _ => true)) (by simp)⟩
    | own l => simp only [D.ok] at h; cases h
    | cell l => simp only [D.ok] at h; cases h
    | scr l => simp only [D.ok] at h; cases h
end Pv

/-! # PvW2 -/
set_option Elab.async false
set_option linter.all false
set_option maxHeartbeats 1000000
/-! conditions of the later constructs -/
namespace Pv
open PySem
section
variable {env : Env} {st : Ms} {f f1 f2 fk : ES} {fs : AS} {i j l c : Nat} {d a b : D}
@[simp] theorem wp_sUnp2 {is : List Nat} {Q : Fl → Prop} : Wp (sUnp2 is f env st) Q ↔ Wp (f env st) fun x => Wp (seqOf x.1) fun ds => ds.length = is.length ∧ Wp (setAll is ds x.2.1) fun e => Q (.nx e x.2.2) := by
  unfold sUnp2
  rw [wp_bind]
  refine ⟨fun h => h.mono fun x q => ?_, fun h => h.mono fun x q => ?_⟩
  · rw [wp_bind] at q
    refine q.mono fun ds q => ?_
    by_cases e : ds.length = is.length
    · rw [if_pos e, wp_map'] at q; exact ⟨e, q⟩
    · rw [if_neg e] at q; simp at q
  · rw [wp_bind]
    refine q.mono fun ds q => ?_
    rw [if_pos q.1, wp_map']; exact q.2
@[simp] theorem seqOf_tup {m : List D} : seqOf (.tup m) = some m := rfl
@[simp] theorem seqOf_own {m : List D} : seqOf (.own m) = some m := rfl
@[simp] theorem seqOf_lst {m : List D} : seqOf (.lst m) = some m := rfl
@[simp] theorem wp_sPar3 {Q : Fl → Prop} : Wp (sPar3 i j l fs env st) Q ↔ Wp (fs env st) fun x => ∃ a b c, x.1 = [a, b, c] ∧ Wp (setAll [i, j, l] [a, b, c] x.2.1) fun e => Q (.nx e x.2.2) := by
  unfold sPar3
  rw [wp_bind]
  refine ⟨fun h => h.mono fun x q => ?_, fun h => h.mono fun x q => ?_⟩
  · split at q
    · rename_i a b c e
      rw [wp_map'] at q; exact ⟨a, b, c, e, q⟩
    · simp at q
  · obtain ⟨a, b, c, e, q⟩ := q
    rw [e]; simp only [wp_map']; exact q
@[simp] theorem wp_fIsa2 {A B : String} {Q : D × Env × Ms → Prop} : Wp (fIsa2 A B f env st) Q ↔ Wp (f env st) fun x => Q (.bl (isaB A x.1 || isaB B x.1), x.2) := by unfold fIsa2; simp only [wp_map']
@[simp] theorem wp_fLrg2 {Q : D × Env × Ms → Prop} : Wp (fLrg2 f1 f2 env st) Q ↔ Wp (f1 env st) fun x => Wp (f2 x.2.1 x.2.2) fun y => ∃ m n, x.1 = .int m ∧ y.1 = .int n ∧ (okR m = true ∧ okR n = true) ∧ Q (.own (rgD m n), y.2) := by
  unfold fLrg2
  rw [wp_bind]
  refine ⟨fun h => h.mono fun x q => ?_, fun h => h.mono fun x q => ?_⟩
  · rw [wp_bind] at q
    refine q.mono fun y q => ?_
    split at q
    · rename_i m n e1 e2
      by_cases k : okR m = true ∧ okR n = true
      · rw [if_pos k] at q; exact ⟨m, n, e1, e2, k, by simpa using q⟩
      · rw [if_neg k] at q; simp at q
    · simp at q
  · rw [wp_bind]
    refine q.mono fun y q => ?_
    obtain ⟨m, n, e1, e2, k, q⟩ := q
    rw [e1, e2]; simp [k, q]
@[simp] theorem wp_sDm {Q : Fl → Prop} : Wp (sDm i j fk f env st) Q ↔ Wp (f env st) fun x => ∃ a b, x.1 = .tup [a, b] ∧ ∃ c, x.2.1[i]? = some (some (.cell c)) ∧ Wp (fk x.2.1 x.2.2) fun y => ∃ k ds, y.1 = .int k ∧ y.2.2[c]? = some ds ∧ Wp (L2.ixN ds.length k) fun n => (a.nc = true ∧ a.of = true ∧ b.of = true ∧ j < y.2.1.length) ∧ Q (.nx (y.2.1.set j (some b)) (y.2.2.set c (ds.set n a))) := by
  unfold sDm
  rw [wp_bind]
  refine ⟨fun h => h.mono fun x q => ?_, fun h => h.mono fun x q => ?_⟩
  · split at q
    · rename_i a b e
      refine ⟨a, b, e, ?_⟩
      split at q
      · rename_i c e2
        refine ⟨c, e2, ?_⟩
        rw [wp_bind] at q
        refine q.mono fun y q => ?_
        split at q
        · rename_i k ds e3 e4
          refine ⟨k, ds, e3, e4, ?_⟩
          rw [wp_bind] at q
          refine q.mono fun n q => ?_
          by_cases hc : a.nc = true ∧ a.of = true ∧ b.of = true ∧ j < y.2.1.length
          · rw [if_pos hc] at q; exact ⟨hc, by simpa using q⟩
          · rw [if_neg hc] at q; simp at q
        · simp at q
      · simp at q
    · simp at q
  · obtain ⟨a, b, e, c, e2, q⟩ := q
    rw [e]
    simp only [e2]
    rw [wp_bind]
    refine q.mono fun y q => ?_
    obtain ⟨k, ds, e3, e4, q⟩ := q
    simp only [e3, e4]
    rw [wp_bind]
    refine q.mono fun n q => ?_
    rw [if_pos q.1]; simpa using q.2
@[simp] theorem dmD_ii {i j : Int} : dmD st [.int i, .int j] = if 0 < j ∧ j < 1073741824 then some (.tup [.int (i / j), .int (i % j)]) else none := rfl
@[simp] theorem max3D_iii {i j k : Int} : max3D st [.int i, .int j, .int k] = some (.int (max (max i j) k)) := rfl
@[simp] theorem ex2D_own {m : PyData → List PyData → PyData} {ds : List D} : ex2D m st [.own ds] = extD m st [.own ds] := rfl
@[simp] theorem ex2D_lst {m : PyData → List PyData → PyData} {ds : List D} : ex2D m st [.lst ds] = extD m st [.lst ds] := rfl
@[simp] theorem wp_sSetO {Q : Fl → Prop} : Wp (sSetO i fk f env st) Q ↔ Wp (f env st) fun x => (∃ l, x.2.1[i]? = some (some (.own l))) ∧ Wp (fk x.2.1 x.2.2) fun y => ∃ k l, y.1 = .int k ∧ y.2.1[i]? = some (some (.own l)) ∧ Wp (L2.ixN l.length k) fun n => Q (.nx (y.2.1.set i (some (.own (l.set n x.1)))) y.2.2) := by
  unfold sSetO
  rw [wp_bind]
  refine ⟨fun h => h.mono fun x q => ?_, fun h => h.mono fun x q => ?_⟩
  · split at q
    · rename_i l0 e0
      refine ⟨⟨l0, e0⟩, ?_⟩
      rw [wp_bind] at q
      refine q.mono fun y q => ?_
      split at q
      · rename_i k l e1 e2
        refine ⟨k, l, e1, e2, ?_⟩
        rw [wp_bind] at q
        exact q.mono fun n q => by simpa using q
      · simp at q
    · simp at q
  · obtain ⟨⟨l0, e0⟩, q⟩ := q
    simp only [e0]
    rw [wp_bind]
    refine q.mono fun y q => ?_
    obtain ⟨k, l, e1, e2, q⟩ := q
    simp only [e1, e2]
    rw [wp_bind]
    exact q.mono fun n q => by simpa using q
@[simp] theorem wp_sAppK {Q : Fl → Prop} : Wp (sAppK i fk f env st) Q ↔ (∃ l, env[i]? = some (some (.own l))) ∧ Wp (fk env st) fun y => ∃ k l, y.1 = .int k ∧ y.2.1[i]? = some (some (.own l)) ∧ Wp (L2.ixN l.length k) fun n => (∃ m, l[n]? = some (.own m)) ∧ Wp (f y.2.1 y.2.2) fun x => ∃ l2 m, x.2.1[i]? = some (some (.own l2)) ∧ l2[n]? = some (.own m) ∧ m.length < BIG ∧ Q (.nx (x.2.1.set i (some (.own (l2.set n (.own (m ++ [x.1])))))) x.2.2) := by
  unfold sAppK
  split
  · rename_i l0 e0
    rw [wp_bind]
    simp only [e0, Option.some.injEq, D.own.injEq, exists_eq', true_and]
    refine ⟨fun h => h.mono fun y q => ?_, fun h => h.mono fun y q => ?_⟩
    · split at q
      · rename_i k l e1 e2
        refine ⟨k, l, e1, e2, ?_⟩
        rw [wp_bind] at q
        refine q.mono fun n q => ?_
        split at q
        · rename_i m e3
          refine ⟨⟨m, e3⟩, ?_⟩
          rw [wp_bind] at q
          refine q.mono fun x q => ?_
          split at q
          · rename_i l2 e4
            split at q
            · rename_i m2 e5
              by_cases hb : m2.length < BIG
              · rw [if_pos hb] at q; exact ⟨l2, m2, e4, e5, hb, by simpa using q⟩
              · rw [if_neg hb] at q; simp at q
            · simp at q
          · simp at q
        · simp at q
      · simp at q
    · obtain ⟨k, l, e1, e2, q⟩ := q
      simp only [e1, e2]
      rw [wp_bind]
      refine q.mono fun n q => ?_
      obtain ⟨⟨m, e3⟩, q⟩ := q
      simp only [e3]
      rw [wp_bind]
      refine q.mono fun x q => ?_
      obtain ⟨l2, m2, e4, e5, hb, q⟩ := q
      simp only [e4, e5]
      rw [if_pos hb]; simpa using q
  · rename_i h
    simp only [wp_none, false_iff]
    rintro ⟨⟨l, e⟩, _⟩
    exact h l e
end
end Pv

/-! # PvW3 -/
set_option Elab.async false
set_option linter.all false
set_option maxHeartbeats 1000000
/-! conditions of the later constructs, II; pots anywhere -/
namespace Pv
open PySem
section
variable {env : Env} {st : Ms} {f f1 f2 fk : ES} {fs : AS} {m : FS}
@[simp] theorem wp_fCellCall {Q : D × Env × Ms → Prop} : Wp (fCellCall m fs env st) Q ↔ Wp (fs env st) fun x => Wp (m x.1 x.2.2) fun y => ∃ ds, y.1 = .own ds ∧ D.ncs (D.fzs ds) = true ∧ Q (.cell y.2.length, x.2.1, y.2 ++ [D.fzs ds]) := by
  unfold fCellCall
  rw [wp_bind]
  refine ⟨fun h => h.mono fun x q => ?_, fun h => h.mono fun x q => ?_⟩
  · rw [wp_bind] at q
    refine q.mono fun y q => ?_
    split at q
    · rename_i ds e
      by_cases k : D.ncs (D.fzs ds) = true
      · rw [if_pos k] at q; exact ⟨ds, e, k, by simpa using q⟩
      · rw [if_neg k] at q; simp at q
    · simp at q
  · rw [wp_bind]
    refine q.mono fun y q => ?_
    obtain ⟨ds, e, k, q⟩ := q
    rw [e]; simp [k, q]
@[simp] theorem isBD_bb {p q : Bool} : isBD st (.bl p) (.bl q) = some (.bl (decide (p = q))) := rfl
@[simp] theorem notBD_bb {p q : Bool} : notBD st (.bl p) (.bl q) = some (.bl (!decide (p = q))) := rfl
/-- a pot at the place c -/
def PotAt (c : Nat) (st : Ms) : Prop := ∃ a b : Int, st[c]? = some [.int a, .int b] ∧ 0 ≤ a ∧ 0 ≤ b ∧ b < 2147483648
theorem PotAt.lt {c : Nat} (h : PotAt c st) : c < st.length := by
  obtain ⟨a, b, e, _⟩ := h
  exact (List.getElem?_eq_some_iff.mp e).1
end
end Pv

/-! # PvW4 -/
set_option Elab.async false
set_option linter.all false
set_option maxHeartbeats 1000000
/-! loops that may return, while loops -/
namespace Pv
open PySem
section
variable {env : Env} {st : Ms} {f : ES} {gs : GS} {S : SS} {t : BS} {d : D} {l : List D}
theorem wp_forR {α : Type} {Q : Fl → Prop} (xs : List α) (g : α → D) (I : List α → Env → Ms → Prop) (h0 : I [] env st)
    (h : ∀ pre x post env st, xs = pre ++ x :: post → I pre env st → Wp (gs (g x) env) fun e => Wp (S e st) fun r => match r with
      | .nx e2 st2 => I (pre ++ [x]) e2 st2
      | .ct e2 st2 => I (pre ++ [x]) e2 st2
      | .rt d st2 => Q (.rt d st2)
      | .bk _ _ => False)
    (q : ∀ env st, I xs env st → Q (.nx env st)) : Wp (forF gs S (xs.map g) env st) Q := by
  have : ∀ (post pre : List α) (env : Env) (st : Ms), xs = pre ++ post → I pre env st → Wp (forF gs S (post.map g) env st) Q := by
    intro post
    induction post with
    | nil =>
      intro pre env st e i
      rw [List.append_nil] at e
      subst e
      exact ⟨_, rfl, q _ _ i⟩
    | cons x post ih =>
      intro pre env st e i
      show Wp ((gs (g x) env).bind fun env1 => (S env1 st).bind fun r => match r with
        | .nx env2 st2 => forF gs S (post.map g) env2 st2
        | .ct env2 st2 => forF gs S (post.map g) env2 st2
        | .bk env2 st2 => some (.nx env2 st2)
        | .rt d st2 => some (.rt d st2)) Q
      rw [wp_bind]
      refine (h pre x post env st e i).mono fun e1 q1 => ?_
      rw [wp_bind]
      refine q1.mono fun r q2 => ?_
      have e' : xs = (pre ++ [x]) ++ post := by rw [e, List.append_assoc]; rfl
      cases r with
      | nx e2 st2 => exact ih _ _ _ e' q2
      | ct e2 st2 => exact ih _ _ _ e' q2
      | bk e2 st2 => exact q2.elim
      | rt d st2 => exact ⟨_, rfl, q2⟩
  exact this xs [] env st rfl h0
theorem wp_while {α : Type} {Q : Fl → Prop} (I : α → Env → Ms → Prop) (μ : α → Nat)
    (h : ∀ a env st, I a env st → Wp (t env st) fun x => if x.1 = true then Wp (S x.2.1 x.2.2) fun r => match r with
      | .nx e2 st2 => ∃ a2, μ a2 < μ a ∧ I a2 e2 st2
      | .ct e2 st2 => ∃ a2, μ a2 < μ a ∧ I a2 e2 st2
      | .rt d st2 => Q (.rt d st2)
      | .bk e2 st2 => Q (.nx e2 st2)
      else Q (.nx x.2.1 x.2.2)) : ∀ (n : Nat) (a : α) {env : Env} {st : Ms}, μ a < n → I a env st → Wp (whF t S n env st) Q
  | 0, a, env, st, hn, _ => absurd hn (Nat.not_lt_zero _)
  | n + 1, a, env, st, hn, i => by
    show Wp ((t env st).bind fun x => if x.1 = true then (S x.2.1 x.2.2).bind fun r => match r with
      | .nx env2 st2 => whF t S n env2 st2
      | .ct env2 st2 => whF t S n env2 st2
      | .bk env2 st2 => some (.nx env2 st2)
      | .rt d st2 => some (.rt d st2)
    else some (.nx x.2.1 x.2.2)) Q
    rw [wp_bind]
    refine (h a env st i).mono fun x q => ?_
    by_cases hx : x.1 = true
    · rw [if_pos hx] at q
      rw [if_pos hx, wp_bind]
      refine q.mono fun r q => ?_
      cases r with
      | nx e2 st2 =>
        obtain ⟨a2, h2, i2⟩ := q
        exact wp_while I μ h n a2 (by omega) i2
      | ct e2 st2 =>
        obtain ⟨a2, h2, i2⟩ := q
        exact wp_while I μ h n a2 (by omega) i2
      | bk e2 st2 => exact ⟨_, rfl, q⟩
      | rt d st2 => exact ⟨_, rfl, q⟩
    · rw [if_neg hx] at q
      rw [if_neg hx]
      exact ⟨_, rfl, q⟩
@[simp] theorem isND_own : isND st (.own l) .non = some (.bl false) := rfl
@[simp] theorem notND_own : notND st (.own l) .non = some (.bl true) := rfl
@[simp] theorem notND_lst : notND st (.lst l) .non = some (.bl true) := rfl
@[simp] theorem notND_bl {b : Bool} : notND st (.bl b) .non = some (.bl true) := rfl
theorem ext_min {x : Int} {r : List Int} : extD W.minD st [.own ((x :: r).map .int)] = some (.int (r.foldl min x)) := by
  have h : D.pls ((x :: r).map .int) = true ∧ alikeB (D.pys ((x :: r).map .int)) = true ∧ PyData.depthAll (D.pys ((x :: r).map .int)) ≤ 60 := by
    refine ⟨by simp, ?_, by simp⟩
    have := alikeB_map (xs := x :: r) (f := fun i => PyData.int i) (by simp) (by simp)
    simpa using this
  show (D.li (.own ((x :: r).map .int))).bind _ = _
  rw [li_own, if_pos (by simp)]
  show (if _ then some (ofPy (W.minD (D.py (.int x)) (D.pys (r.map .int)))) else none) = _
  rw [List.map_cons] at h
  rw [if_pos h, py_int, pys_map]
  simp only [py_int]
  rw [W.minD_ints, ofPy_int]
theorem ext_min_lst {x : Int} {r : List Int} : extD W.minD st [.lst ((x :: r).map .int)] = some (.int (r.foldl min x)) := by
  have e := ext_min (st := st) (x := x) (r := r)
  unfold extD at e ⊢
  simpa only [li_own, li_lst, ofs_map, of_int, List.all_eq_true, implies_true, if_true] using e
theorem enum_g {α : Type} (g : α → D) : ∀ (i : Nat) (xs : List α), enumD i (xs.map g) = (xs.zipIdx i).map fun x => .tup [.int (x.2 : Int), g x.1]
  | i, [] => rfl
  | i, x :: xs => by
    show D.tup [.int (i : Int), g x] :: enumD (i + 1) (xs.map g) = _
    rw [enum_g g (i + 1) xs]
    rfl
theorem zipIdx_at {α : Type} {xs : List α} {pre post : List (α × Nat)} {x : α × Nat} (e : xs.zipIdx = pre ++ x :: post) : x.2 = pre.length ∧ xs[pre.length]? = some x.1 := by
  have h : xs.zipIdx[pre.length]? = some x := by rw [e]; simp
  rw [List.getElem?_zipIdx] at h
  cases hx : xs[pre.length]? with
  | none => rw [hx] at h; simp at h
  | some y =>
    rw [hx] at h
    simp at h
    rw [← h]; simp
theorem mem_split_len {α : Type} {xs pre post : List α} {x : α} (e : xs = pre ++ x :: post) : pre.length < xs.length ∧ xs[pre.length]? = some x := by
  subst e
  simp
end
end Pv

/-! # PvZ2 -/
set_option Elab.async false
set_option linter.all false
set_option maxHeartbeats 1000000
set_option maxRecDepth 10000
/-! another law's comparison, of a value with itself -/
namespace Pv
open PySem
def F_same2 (m : FS) : SS := (sSeq (sIf (bOr (fB (fIsa "list" (fPk 1))) (fB (fIsa "tuple" (fPk 1)))) (sSeq (sIf (bOr (fB (fBin neD (fIsa "list" (fPk 0)) (fIsa "list" (fPk 1)))) (fB (fBin neD (fIsa "tuple" (fPk 0)) (fIsa "tuple" (fPk 1))))) (sRet (fC (.bl false))) sNil)
  (sRet (fAnd (fBin eqD (fCl lenD (aCons (fPk 0) aNil)) (fCl lenD (aCons (fPk 1) aNil))) (fCl allD (aCons (fComp (wZip (aCons (fVar 0) (aCons (fVar 1) aNil))) (gTupS (gConsS (gN 2) (gConsS (gN 3) gNilS)) 2) bYes (fCall m (aCons (fVar 2) (aCons (fVar 3) aNil))) [2, 3]) aNil))))) sNil)
  (sSeq (sIf (fB (fBin isND (fPk 1) (fC .non))) (sRet (fBin isND (fPk 0) (fC .non))) sNil)
  (sSeq (sIf (bOr (fB (fBin neD (fIsa "bool" (fPk 0)) (fIsa "bool" (fPk 1)))) (fB (fBin neD (fIsa "str" (fPk 0)) (fIsa "str" (fPk 1))))) (sRet (fC (.bl false))) sNil)
  (sRet (fAnd (fBin eqD (fIsa "int" (fPk 0)) (fIsa "int" (fPk 1))) (fBin eqD (fPk 0) (fPk 1)))))))
def m_same2_n : Nat → FS
  | 0 => fun _ _ => none
  | n + 1 => mkFn 4 2 (F_same2 (m_same2_n n))
theorem same2_refl : ∀ (k : Nat) (d : D) (st : Ms), D.ok k d = true → m_same2_n (k + 1) [d, d] st = some (.bl true, st) := by
  intro k
  induction k with
  | zero =>
    intro d st h
    rw [← wp_eq]
    refine wp_mkFn (by rfl) ?_
    cases d <;> first | (simp only [D.ok] at h; cases h; done) | skip
    all_goals simp [F_same2, isND]
    all_goals simp [isN]
  | succ k ih =>
    intro d st h
    rw [← wp_eq]
    refine wp_mkFn (by rfl) ?_
    cases d with
    | non => simp [F_same2, isND, isN]
    | bl b => simp [F_same2, isND, isN]
    | int b => simp [F_same2, isND, isN]
    | str b => simp [F_same2, isND, isN]
    | tup l =>
      have hf := ok_fz h
      simp only [D.ok, Bool.and_eq_true, decide_eq_true_eq] at h
      rw [fz_tup, D.tup.injEq] at hf
      simp [F_same2, isND, isN, wp_fComp, okAt, wipeE, restE, hf]
      rw [zipD_self]
      refine wp_each (α := D) l _ (fun _ => .bl true) (fun x hx => ?_) ?_
      · have hx2 := oks_all h.2 x hx
        simp [ih x st hx2, ok_fz hx2, wipeE]
      · simp only [List.length_map]
        exact ⟨h.1, wp_step (allD_map l (fun _ => true)) (by simp)⟩
    | lst l =>
      simp only [D.ok, Bool.and_eq_true, decide_eq_true_eq] at h
      simp [F_same2, isND, isN, wp_fComp, okAt, wipeE, restE]
      rw [zipD_self]
      refine wp_each (α := D) l _ (fun _ => .bl true) (fun x hx => ?_) ?_
      · have hx2 := oks_all h.2 x hx
        simp [ih x st hx2, ok_fz hx2, wipeE]
      · simp only [List.length_map]
        exact ⟨h.1, wp_step (allD_map l (fun _ => true)) (by simp)⟩
    | own l => simp only [D.ok] at h; cases h
    | cell l => simp only [D.ok] at h; cases h
    | scr l => simp only [D.ok] at h; cases h
end Pv

/-! # PvW5 -/
set_option Elab.async false
set_option linter.all false
set_option maxHeartbeats 1000000
/-! conditions of a mixed zip -/
namespace Pv
open PySem
section
variable {env : Env} {st : Ms} {fs : AS} {l : List D}
@[simp] theorem wp_wZipX {Q : List D × Env × Ms → Prop} : Wp (wZipX fs env st) Q ↔ Wp (fs env st) fun x => ∃ a b, x.1 = [a, b] ∧ Wp (seqX a) fun l => Wp (seqX b) fun m => Q (zipD l m, x.2) := by
  unfold wZipX
  rw [wp_bind]
  refine ⟨fun h => h.mono fun x q => ?_, fun h => h.mono fun x q => ?_⟩
  · split at q
    · rename_i a b e
      rw [wp_bind] at q
      refine ⟨a, b, e, q.mono fun l q => ?_⟩
      rw [wp_map'] at q; exact q
    · simp at q
  · obtain ⟨a, b, e, q⟩ := q
    rw [e]
    dsimp only
    rw [wp_bind]
    refine q.mono fun l q => ?_
    rw [wp_map']; exact q
@[simp] theorem seqX_tup : seqX (.tup l) = some l := rfl
@[simp] theorem seqX_lst : seqX (.lst l) = some l := rfl
@[simp] theorem sum2D_own : sum2D st [.own l] = sumD st [.own l] := rfl
@[simp] theorem sum2D_lst : sum2D st [.lst l] = sumD st [.lst l] := rfl
@[simp] theorem sum2D_tup {ns : List Int} : sum2D st [.tup (ns.map .int)] = some (.int ns.sum) := by
  simp [sum2D, intsOf_map]
@[simp] theorem wp_fRe {f : ES} {Q : D × Env × Ms → Prop} : Wp (fRe f env st) Q ↔ Wp (f env st) fun x => (flatB x.1 = true ∧ flatS x.2.2 = true) ∧ Q (x.1, env, x.2.2) := by
  unfold fRe
  rw [wp_bind]
  refine ⟨fun h => h.mono fun x q => ?_, fun h => h.mono fun x q => ?_⟩
  · by_cases e : flatB x.1 = true ∧ flatS x.2.2 = true
    · rw [if_pos e] at q; exact ⟨e, by simpa using q⟩
    · rw [if_neg e] at q; simp at q
  · rw [if_pos q.1]; simpa using q.2
@[simp] theorem flatB_bl {b : Bool} : flatB (.bl b) = true := rfl
/-- a pot at the place c, and no places in the pots -/
def PotF (c : Nat) (st : Ms) : Prop := ∃ a b : Int, st[c]? = some [.int a, .int b] ∧ 0 ≤ a ∧ 0 ≤ b ∧ b < 2147483648 ∧ flatS st = true
theorem PotF.lt {c : Nat} (h : PotF c st) : c < st.length := by
  obtain ⟨a, b, e, _⟩ := h
  exact (List.getElem?_eq_some_iff.mp e).1
theorem PotF.fl {c : Nat} (h : PotF c st) : flatS st = true := by
  obtain ⟨a, b, e, _, _, _, f⟩ := h
  exact f
theorem flatS_set {c : Nat} (h : flatS st = true) (hl : l.all flatB = true) : flatS (st.set c l) = true := by
  unfold flatS at h ⊢
  rw [List.all_eq_true] at h ⊢
  intro x hx
  rcases List.mem_or_eq_of_mem_set hx with hx | rfl
  · exact h x hx
  · exact hl
theorem flatS_app (h : flatS st = true) (hl : l.all flatB = true) : flatS (st ++ [l]) = true := by
  unfold flatS at h ⊢
  rw [List.all_append, h]
  simpa using hl
end
end Pv

/-! # the walk -/
set_option maxHeartbeats 2000000
set_option maxRecDepth 100000
namespace Pv.K64
open PySem PySem.Spec PyProof.Rows L2 Pv
abbrev topS (i : Nat) : Stmt := PySem.Challenge.pw_payingpit_k64_whole_least_and_greatest_r.main.body.getD i (.Pass ⟨0, 0, 0, 0⟩)
/-! ### _law_runs -/
abbrev sd__law_runs : Stmt := topS 39
abbrev N__law_runs : List Str := ["feed", "found", "brought", "low", "high", "longer", "run", "store", "take"]
abbrev ps__law_runs : List Str := ["feed"]
theorem sc__law_runs : FnScope N__law_runs ps__law_runs (defScope sd__law_runs) := ⟨rfl, rfl, rfl, by decide +kernel, rfl, by decide +kernel, by decide +kernel⟩
theorem bp__law_runs : BindP "_law_runs" sd__law_runs ps__law_runs := fun _ _ _ _ _ _ us hl => match us, hl with | [_], _ => rfl
def F__law_runs : SS := (sSeq (sAsg 1 (fLst (aCons (fTup (aCons (fLst aNil) (aCons (fBin ixD (fPk 0) (fC (.int 2))) aNil))) aNil)))
  (sSeq (sFor (wSeq (fZ (fBin ixD (fPk 0) (fC (.int 3))))) (gTupS (gConsS (gN 2) (gConsS (gN 3) (gConsS (gN 4) gNilS))) 3) (sSeq (sAsg 5 (fLst aNil))
  (sSeq (sFor (wSeq (fVar 1)) (gTupS (gConsS (gN 6) (gConsS (gN 7) gNilS)) 2) (sFor (wRng2 (aCons (fPk 3) (aCons (fBin addD (fPk 4) (fC (.int 1))) aNil))) (gN 8) (sIf (fB (fChain leD leD (fC (.int 0)) (fBin subD (fBin addD (fPk 7) (fPk 2)) (fPk 8)) (fBin ixD (fPk 0) (fC (.int 1))))) (sApp 5 (fTup (aCons (fBin addD (fPk 6) (fLst (aCons (fVar 8) aNil))) (aCons (fBin subD (fBin addD (fPk 7) (fPk 2)) (fPk 8)) aNil)))) sNil)))
  (sAsg 1 (fVar 5)))))
  (sRet (fComp (wSeq (fVar 1)) (gTupS (gConsS (gN 6) (gConsS (gN 7) gNilS)) 2) bYes (fVar 6) [6, 7]))))
def m__law_runs : FS := mkFn 9 1 F__law_runs
theorem ok__law_runs {P : Program} {w : World} {K : PySem.W.Frag} {mg : Str → Option Value} {base : Heap} (D : Df K mg "_law_runs" sd__law_runs) (z_range : mg "range" = none) : Cal P w K mg base "_law_runs" sd__law_runs 1 ps__law_runs m__law_runs := cal_mk (N := N__law_runs) D sc__law_runs bp__law_runs (by decide) (fun f cdv A outer s H E hgd hr => by
  have hu := hr.units
  exact (ss_cons (s1_asg sc__law_runs.nd (by rfl) (.inl (by rfl)) (se_lst (ses_cons (se_tup (ses_cons (se_lst ses_nil) (ses_cons (se_ix or_ix ok_ix (nP 0 (by rfl) (.inl (by rfl))) sz_int.p (fun _ _ => rfl)) ses_nil))) ses_nil)))
  (ss_cons (s1_for PassesOwn.never (by rfl) (si_seq (se_ix or_ix ok_ix (nP 0 (by rfl) (.inl (by rfl))) sz_int.p (fun _ _ => rfl)).z) (sg_tup (pg_tup (by rfl) (sgs_cons (sg_name (pg_name (i := 2) sc__law_runs.nd (by rfl) (.inl (by rfl)))) (sgs_cons (sg_name (pg_name (i := 3) sc__law_runs.nd (by rfl) (.inl (by rfl)))) (sgs_cons (sg_name (pg_name (i := 4) sc__law_runs.nd (by rfl) (.inl (by rfl)))) sgs_nil (pgs_cons (sg_name (pg_name (i := 4) sc__law_runs.nd (by rfl) (.inl (by rfl)))) sgs_nil)) (pgs_cons (sg_name (pg_name (i := 3) sc__law_runs.nd (by rfl) (.inl (by rfl)))) (sgs_cons (sg_name (pg_name (i := 4) sc__law_runs.nd (by rfl) (.inl (by rfl)))) sgs_nil (pgs_cons (sg_name (pg_name (i := 4) sc__law_runs.nd (by rfl) (.inl (by rfl)))) sgs_nil)))) (pgs_cons (sg_name (pg_name (i := 2) sc__law_runs.nd (by rfl) (.inl (by rfl)))) (sgs_cons (sg_name (pg_name (i := 3) sc__law_runs.nd (by rfl) (.inl (by rfl)))) (sgs_cons (sg_name (pg_name (i := 4) sc__law_runs.nd (by rfl) (.inl (by rfl)))) sgs_nil (pgs_cons (sg_name (pg_name (i := 4) sc__law_runs.nd (by rfl) (.inl (by rfl)))) sgs_nil)) (pgs_cons (sg_name (pg_name (i := 3) sc__law_runs.nd (by rfl) (.inl (by rfl)))) (sgs_cons (sg_name (pg_name (i := 4) sc__law_runs.nd (by rfl) (.inl (by rfl)))) sgs_nil (pgs_cons (sg_name (pg_name (i := 4) sc__law_runs.nd (by rfl) (.inl (by rfl)))) sgs_nil)))))))) (ss_cons (s1_asg sc__law_runs.nd (by rfl) (.inl (by rfl)) (se_lst ses_nil))
  (ss_cons (s1_for PassesOwn.never (by rfl) (si_seq (nZ 1 (by rfl) (.inl (by rfl)))) (sg_tup (pg_tup (by rfl) (sgs_cons (sg_name (pg_name (i := 6) sc__law_runs.nd (by rfl) (.inl (by rfl)))) (sgs_cons (sg_name (pg_name (i := 7) sc__law_runs.nd (by rfl) (.inl (by rfl)))) sgs_nil (pgs_cons (sg_name (pg_name (i := 7) sc__law_runs.nd (by rfl) (.inl (by rfl)))) sgs_nil)) (pgs_cons (sg_name (pg_name (i := 6) sc__law_runs.nd (by rfl) (.inl (by rfl)))) (sgs_cons (sg_name (pg_name (i := 7) sc__law_runs.nd (by rfl) (.inl (by rfl)))) sgs_nil (pgs_cons (sg_name (pg_name (i := 7) sc__law_runs.nd (by rfl) (.inl (by rfl)))) sgs_nil)))))) (ss_one (s1_for PassesOwn.never (by rfl) (si_rng2 (by rfl) z_range (sps_cons (nP 3 (by rfl) (.inl (by rfl))) (sps_cons (se_bin or_add ok_add (nP 4 (by rfl) (.inl (by rfl))) sz_int.p).p sps_nil))) (sg_name (pg_name (i := 8) sc__law_runs.nd (by rfl) (.inl (by rfl)))) (ss_one (s1_if (st_chain op_le ok_cmp op_le ok_cmp sz_int.p (se_bin op_sub ok_sub (se_bin or_add ok_add (nP 7 (by rfl) (.inl (by rfl))) (nP 2 (by rfl) (.inl (by rfl)))).p (nP 8 (by rfl) (.inl (by rfl)))).p (se_ix or_ix ok_ix (nP 0 (by rfl) (.inl (by rfl))) sz_int.p (fun _ _ => rfl)).p) (ss_one (s1_app (pe_var (i := 5) (by rfl) (.inl (by rfl))) (se_tup (ses_cons (se_bin or_add ok_add (nP 6 (by rfl) (.inl (by rfl))) (se_lst (ses_cons (nZ 8 (by rfl) (.inl (by rfl))).se ses_nil)).p) (ses_cons (se_bin op_sub ok_sub (se_bin or_add ok_add (nP 7 (by rfl) (.inl (by rfl))) (nP 2 (by rfl) (.inl (by rfl)))).p (nP 8 (by rfl) (.inl (by rfl)))) ses_nil))))) ss_nil)))))
  (ss_one (s1_asg sc__law_runs.nd (by rfl) (.inl (by rfl)) (nZ 5 (by rfl) (.inl (by rfl))).se)))))
  (ss_one (s1_ret (se_lc (own := [("run", 6), ("store", 7)]) (by rfl) sc__law_runs.nd (si_seq (nZ 1 (by rfl) (.inl (by rfl)))) (by rfl) (by rfl) (by decide) (fun _ _ _ _ _ => (sg_tup (pg_tup (by rfl) (sgs_cons (sg_name (pg_name (i := 6) sc__law_runs.nd (by rfl) (.inl (by rfl)))) (sgs_cons (sg_name (pg_name (i := 7) sc__law_runs.nd (by rfl) (.inl (by rfl)))) sgs_nil (pgs_cons (sg_name (pg_name (i := 7) sc__law_runs.nd (by rfl) (.inl (by rfl)))) sgs_nil)) (pgs_cons (sg_name (pg_name (i := 6) sc__law_runs.nd (by rfl) (.inl (by rfl)))) (sgs_cons (sg_name (pg_name (i := 7) sc__law_runs.nd (by rfl) (.inl (by rfl)))) sgs_nil (pgs_cons (sg_name (pg_name (i := 7) sc__law_runs.nd (by rfl) (.inl (by rfl)))) sgs_nil))))))) (fun _ _ _ _ _ => sts_nil) (fun _ _ _ _ _ => (nZ 6 (by rfl) (.inl (by rfl))).se)))))))
/-! ### _law_taken -/
abbrev sd__law_taken : Stmt := topS 41
abbrev N__law_taken : List Str := ["run", "at"]
abbrev ps__law_taken : List Str := ["run"]
theorem sc__law_taken : FnScope N__law_taken ps__law_taken (defScope sd__law_taken) := ⟨rfl, rfl, rfl, by decide +kernel, rfl, by decide +kernel, by decide +kernel⟩
theorem bp__law_taken : BindP "_law_taken" sd__law_taken ps__law_taken := fun _ _ _ _ _ _ us hl => match us, hl with | [_], _ => rfl
def F__law_taken : SS := (sRet (fComp (wRng1 (aCons (fCl lenD (aCons (fPk 0) aNil)) aNil)) (gN 1) bYes (fCl sum2D (aCons (fSl (fPk 0) oNo (oE (fBin addD (fPk 1) (fC (.int 1))))) aNil)) [1]))
def m__law_taken : FS := mkFn 2 1 F__law_taken
theorem ok__law_taken {P : Program} {w : World} {K : PySem.W.Frag} {mg : Str → Option Value} {base : Heap} (D : Df K mg "_law_taken" sd__law_taken) (z_len : mg "len" = none) (z_range : mg "range" = none) (z_sum : mg "sum" = none) : Cal P w K mg base "_law_taken" sd__law_taken 1 ps__law_taken m__law_taken := cal_mk (N := N__law_taken) D sc__law_taken bp__law_taken (by decide) (fun f cdv A outer s H E hgd hr => by
  have hu := hr.units
  exact (ss_one (s1_ret (se_lc (own := [("at", 1)]) (by rfl) sc__law_taken.nd (si_rng1 (by rfl) z_range (sps_cons (b_len (by rfl) z_len (nP 0 (by rfl) (.inr (.inl (by rfl))))).p sps_nil)) (by rfl) (by rfl) (by decide) (fun _ _ _ _ _ => (sg_name (pg_name (i := 1) sc__law_taken.nd (by rfl) (.inl (by rfl))))) (fun _ _ _ _ _ => sts_nil) (fun _ _ _ _ _ => (b_sum2 (by rfl) (by rfl) z_sum (se_sl (nP 0 (by rfl) (.inr (.inl (by rfl)))) so_no (so_e (se_bin or_add ok_add (nP 1 (by rfl) (.inl (by rfl))) sz_int.p).p)).p))))))
/-! ### _law_same -/
abbrev sd__law_same : Stmt := topS 37
abbrev N__law_same : List Str := ["told", "due", "one", "its"]
abbrev ps__law_same : List Str := ["told", "due"]
theorem sc__law_same : FnScope N__law_same ps__law_same (defScope sd__law_same) := ⟨rfl, rfl, rfl, by decide +kernel, rfl, by decide +kernel, by decide +kernel⟩
theorem bp__law_same : BindP "_law_same" sd__law_same ps__law_same := fun _ _ _ _ _ _ us hl => match us, hl with | [_, _], _ => rfl
def F__law_same (m : FS) : SS := (sSeq (sIf (bOr (fB (fIsa "list" (fPk 1))) (fB (fIsa "tuple" (fPk 1)))) (sSeq (sIf (bOr (fB (fBin neD (fIsa "list" (fPk 0)) (fIsa "list" (fPk 1)))) (fB (fBin neD (fIsa "tuple" (fPk 0)) (fIsa "tuple" (fPk 1))))) (sRet (fC (.bl false))) sNil)
  (sRet (fAnd (fBin eqD (fCl lenD (aCons (fPk 0) aNil)) (fCl lenD (aCons (fPk 1) aNil))) (fCl allD (aCons (fComp (wZip (aCons (fVar 0) (aCons (fVar 1) aNil))) (gTupS (gConsS (gN 2) (gConsS (gN 3) gNilS)) 2) bYes (fCall m (aCons (fVar 2) (aCons (fVar 3) aNil))) [2, 3]) aNil))))) sNil)
  (sSeq (sIf (fB (fBin isND (fPk 1) (fC .non))) (sRet (fBin isND (fPk 0) (fC .non))) sNil)
  (sSeq (sIf (bOr (fB (fBin neD (fIsa "bool" (fPk 0)) (fIsa "bool" (fPk 1)))) (fB (fBin neD (fIsa "str" (fPk 0)) (fIsa "str" (fPk 1))))) (sRet (fC (.bl false))) sNil)
  (sRet (fAnd (fBin eqD (fIsa "int" (fPk 0)) (fIsa "int" (fPk 1))) (fBin eqD (fPk 0) (fPk 1)))))))
def m__law_same_n : Nat → FS
  | 0 => fun _ _ => none
  | n + 1 => mkFn 4 2 (F__law_same (m__law_same_n n))
def m__law_same : FS := m__law_same_n 8
theorem ok__law_same_n {P : Program} {w : World} {K : PySem.W.Frag} {mg : Str → Option Value} {base : Heap} (D : Df K mg "_law_same" sd__law_same) (z_isinstance : mg "isinstance" = none) (z_tuple : mg "tuple" = none) (z_list : mg "list" = none) (z_zip : mg "zip" = none) (z_all : mg "all" = none) (z_len : mg "len" = none) (z_str : mg "str" = none) (z_bool : mg "bool" = none) (z_int : mg "int" = none) (n : Nat) : Cal P w K mg base "_law_same" sd__law_same (0 + n) ps__law_same (m__law_same_n n) := by
  induction n with
  | zero => exact cal_none D bp__law_same
  | succ n c__law_same => exact cal_mk (N := N__law_same) (k := 0 + n) (body := F__law_same (m__law_same_n n)) D sc__law_same bp__law_same (by decide) (fun f cdv A outer s H E hgd hr => by
  have hu := hr.units
  exact (ss_cons (s1_if (sw_or (st_val (isa_list (by rfl) z_isinstance (by rfl) z_list (nP 1 (by rfl) (.inl (by rfl)))).p) (sw_or1 (st_val (isa_tuple (by rfl) z_isinstance (by rfl) z_tuple (nP 1 (by rfl) (.inl (by rfl)))).p))).st (ss_cons (s1_if (sw_or (st_cmp (or_ne hu) ok_ne (isa_list (by rfl) z_isinstance (by rfl) z_list (nP 0 (by rfl) (.inl (by rfl)))).p (isa_list (by rfl) z_isinstance (by rfl) z_list (nP 1 (by rfl) (.inl (by rfl)))).p (nomark _)) (sw_or1 (st_cmp (or_ne hu) ok_ne (isa_tuple (by rfl) z_isinstance (by rfl) z_tuple (nP 0 (by rfl) (.inl (by rfl)))).p (isa_tuple (by rfl) z_isinstance (by rfl) z_tuple (nP 1 (by rfl) (.inl (by rfl)))).p (nomark _)))).st (ss_one (s1_ret sz_bl.se)) ss_nil)
  (ss_one (s1_ret (se_and (se_cmp (or_eq hu) ok_eq (b_len (by rfl) z_len (nP 0 (by rfl) (.inl (by rfl)))).p (b_len (by rfl) z_len (nP 1 (by rfl) (.inl (by rfl)))).p (nomark _)).p (se_one (b_all (by rfl) (by rfl) z_all (se_lc (own := [("one", 2), ("its", 3)]) (by rfl) sc__law_same.nd (si_zip (by rfl) z_zip (szs_cons (nZ 0 (by rfl) (.inl (by rfl))) (szs_cons (nZ 1 (by rfl) (.inl (by rfl))) szs_nil))) (by rfl) (by rfl) (by decide) (fun _ _ _ _ _ => (sg_tup (pg_tup (by rfl) (sgs_cons (sg_name (pg_name (i := 2) sc__law_same.nd (by rfl) (.inl (by rfl)))) (sgs_cons (sg_name (pg_name (i := 3) sc__law_same.nd (by rfl) (.inl (by rfl)))) sgs_nil (pgs_cons (sg_name (pg_name (i := 3) sc__law_same.nd (by rfl) (.inl (by rfl)))) sgs_nil)) (pgs_cons (sg_name (pg_name (i := 2) sc__law_same.nd (by rfl) (.inl (by rfl)))) (sgs_cons (sg_name (pg_name (i := 3) sc__law_same.nd (by rfl) (.inl (by rfl)))) sgs_nil (pgs_cons (sg_name (pg_name (i := 3) sc__law_same.nd (by rfl) (.inl (by rfl)))) sgs_nil))))))) (fun _ _ _ _ _ => sts_nil) (fun _ _ _ _ _ => (cl c__law_same hr (Nat.le_refl _) hgd (by rfl) (szs_cons (nZ 2 (by rfl) (.inl (by rfl))) (szs_cons (nZ 3 (by rfl) (.inl (by rfl))) szs_nil))))).p)))))) ss_nil)
  (ss_cons (s1_if (st_cmp op_isN ok_isN (nP 1 (by rfl) (.inl (by rfl))) sz_non.p (nomark _)) (ss_one (s1_ret (se_cmp op_isN ok_isN (nP 0 (by rfl) (.inl (by rfl))) sz_non.p (nomark _)))) ss_nil)
  (ss_cons (s1_if (sw_or (st_cmp (or_ne hu) ok_ne (isa_bool (by rfl) z_isinstance (by rfl) z_bool (nP 0 (by rfl) (.inl (by rfl)))).p (isa_bool (by rfl) z_isinstance (by rfl) z_bool (nP 1 (by rfl) (.inl (by rfl)))).p (nomark _)) (sw_or1 (st_cmp (or_ne hu) ok_ne (isa_str (by rfl) z_isinstance (by rfl) z_str (nP 0 (by rfl) (.inl (by rfl)))).p (isa_str (by rfl) z_isinstance (by rfl) z_str (nP 1 (by rfl) (.inl (by rfl)))).p (nomark _)))).st (ss_one (s1_ret sz_bl.se)) ss_nil)
  (ss_one (s1_ret (se_and (se_cmp (or_eq hu) ok_eq (isa_int (by rfl) z_isinstance (by rfl) z_int (nP 0 (by rfl) (.inl (by rfl)))).p (isa_int (by rfl) z_isinstance (by rfl) z_int (nP 1 (by rfl) (.inl (by rfl)))).p (nomark _)).p (se_one (se_cmp (or_eq hu) ok_eq (nP 0 (by rfl) (.inl (by rfl))) (nP 1 (by rfl) (.inl (by rfl))) (nomark _))))))))))
theorem ok__law_same {P : Program} {w : World} {K : PySem.W.Frag} {mg : Str → Option Value} {base : Heap} (D : Df K mg "_law_same" sd__law_same) (z_isinstance : mg "isinstance" = none) (z_tuple : mg "tuple" = none) (z_list : mg "list" = none) (z_zip : mg "zip" = none) (z_all : mg "all" = none) (z_len : mg "len" = none) (z_str : mg "str" = none) (z_bool : mg "bool" = none) (z_int : mg "int" = none) : Cal P w K mg base "_law_same" sd__law_same 8 ps__law_same m__law_same := ok__law_same_n D z_isinstance z_tuple z_list z_zip z_all z_len z_str z_bool z_int 8
/-! ### _law_draw -/
abbrev sd__law_draw : Stmt := topS 35
abbrev N__law_draw : List Str := ["pot", "many", "digit"]
abbrev ps__law_draw : List Str := ["pot", "many"]
theorem sc__law_draw : FnScope N__law_draw ps__law_draw (defScope sd__law_draw) := ⟨rfl, rfl, rfl, by decide +kernel, rfl, by decide +kernel, by decide +kernel⟩
theorem bp__law_draw : BindP "_law_draw" sd__law_draw ps__law_draw := fun _ _ _ _ _ _ us hl => match us, hl with | [_, _], _ => rfl
def F__law_draw : SS := (sSeq (sIf (fB (fBin gtD (fBin ixD (fPk 0) (fC (.int 0))) (fC (.int 0)))) (sSeq (sDm 0 2 (fC (.int 0)) (fCl dmD (aCons (fBin ixD (fPk 0) (fC (.int 0))) (aCons (fPk 1) aNil))))
  (sRet (fMv 2))) sNil)
  (sSeq (sSetC 0 (fC (.int 1)) (fZ (fBin modD (fCl int1D (aCons (fBin addD (fBin mulD (fBin ixD (fPk 0) (fC (.int 1))) (fC (.int 40692))) (fC (.int 11213))) aNil)) (fC (.int 2147483587)))))
  (sRet (fBin modD (fCl int1D (aCons (fBin fdivD (fBin modD (fCl int1D (aCons (fBin mulD (fBin ixD (fPk 0) (fC (.int 1))) (fBin ixD (fPk 0) (fC (.int 1)))) aNil)) (fC (.int 2147483549))) (fC (.int 17))) aNil)) (fPk 1)))))
def m__law_draw : FS := mkFn 3 2 F__law_draw
theorem ok__law_draw {P : Program} {w : World} {K : PySem.W.Frag} {mg : Str → Option Value} {base : Heap} (D : Df K mg "_law_draw" sd__law_draw) (z_divmod : mg "divmod" = none) (z_int : mg "int" = none) : Cal P w K mg base "_law_draw" sd__law_draw 1 ps__law_draw m__law_draw := cal_mk (N := N__law_draw) D sc__law_draw bp__law_draw (by decide) (fun f cdv A outer s H E hgd hr => by
  have hu := hr.units
  exact (ss_cons (s1_if (st_cmp op_gt ok_cmp (se_ix or_ix ok_ix (nP 0 (by rfl) (.inl (by rfl))) sz_int.p (fun _ _ => rfl)).p sz_int.p (nomark _)) (ss_cons (s1_dm (b_divmod (by rfl) z_divmod (se_ix or_ix ok_ix (nP 0 (by rfl) (.inl (by rfl))) sz_int.p (fun _ _ => rfl)).p (nP 1 (by rfl) (.inl (by rfl)))) (pe_var (i := 0) (by rfl) (.inl (by rfl))) sz_int.p (by rfl) (pg_name (i := 2) sc__law_draw.nd (by rfl) (.inl (by rfl))) (fun _ => rfl))
  (ss_one (s1_ret (nM 2 (by rfl) (.inl (by rfl)))))) ss_nil)
  (ss_cons (s1_setc (se_bin op_modN ok_mod (b_int (by rfl) z_int (se_bin or_add ok_add (se_bin or_mul ok_mul (se_ix or_ix ok_ix (nP 0 (by rfl) (.inl (by rfl))) sz_int.p (fun _ _ => rfl)).p sz_int.p).p sz_int.p).p).p sz_int.p).z (pe_var (i := 0) (by rfl) (.inl (by rfl))) sz_int.p (fun _ => rfl))
  (ss_one (s1_ret (se_bin op_modN ok_mod (b_int (by rfl) z_int (se_bin op_fdivN ok_fdiv (se_bin op_modN ok_mod (b_int (by rfl) z_int (se_bin or_mul ok_mul (se_ix or_ix ok_ix (nP 0 (by rfl) (.inl (by rfl))) sz_int.p (fun _ _ => rfl)).p (se_ix or_ix ok_ix (nP 0 (by rfl) (.inl (by rfl))) sz_int.p (fun _ _ => rfl)).p).p).p sz_int.p).p sz_int.p).p).p (nP 1 (by rfl) (.inl (by rfl)))))))))
/-! ### _law_pick -/
abbrev sd__law_pick : Stmt := topS 36
abbrev N__law_pick : List Str := ["pot", "some"]
abbrev ps__law_pick : List Str := ["pot", "some"]
theorem sc__law_pick : FnScope N__law_pick ps__law_pick (defScope sd__law_pick) := ⟨rfl, rfl, rfl, by decide +kernel, rfl, by decide +kernel, by decide +kernel⟩
theorem bp__law_pick : BindP "_law_pick" sd__law_pick ps__law_pick := fun _ _ _ _ _ _ us hl => match us, hl with | [_, _], _ => rfl
def F__law_pick : SS := (sRet (fBin ixD (fPk 1) (fCall m__law_draw (aCons (fVar 0) (aCons (fZ (fCl lenD (aCons (fPk 1) aNil))) aNil)))))
def m__law_pick : FS := mkFn 2 2 F__law_pick
theorem ok__law_pick {P : Program} {w : World} {K : PySem.W.Frag} {mg : Str → Option Value} {base : Heap} (D : Df K mg "_law_pick" sd__law_pick) (c__law_draw : Cal P w K mg base "_law_draw" sd__law_draw 1 ps__law_draw m__law_draw) (z_len : mg "len" = none) : Cal P w K mg base "_law_pick" sd__law_pick 2 ps__law_pick m__law_pick := cal_mk (N := N__law_pick) D sc__law_pick bp__law_pick (by decide) (fun f cdv A outer s H E hgd hr => by
  have hu := hr.units
  exact (ss_one (s1_ret (se_ix or_ix ok_ix (nP 1 (by rfl) (.inl (by rfl))) (cl c__law_draw hr (by decide) hgd (by rfl) (szs_cons (nZ 0 (by rfl) (.inl (by rfl))) (szs_cons (b_len (by rfl) z_len (nP 1 (by rfl) (.inl (by rfl)))).z szs_nil))).p (fun _ _ => rfl)))))
/-! ### is_integer -/
abbrev sd_is_integer : Stmt := topS 1
abbrev N_is_integer : List Str := ["value"]
abbrev ps_is_integer : List Str := ["value"]
theorem sc_is_integer : FnScope N_is_integer ps_is_integer (defScope sd_is_integer) := ⟨rfl, rfl, rfl, by decide +kernel, rfl, by decide +kernel, by decide +kernel⟩
theorem bp_is_integer : BindP "is_integer" sd_is_integer ps_is_integer := fun _ _ _ _ _ _ us hl => match us, hl with | [_], _ => rfl
def F_is_integer : SS := (sRet (fAnd (fIsa "int" (fPk 0)) (fNot (fIsa "bool" (fPk 0)))))
def m_is_integer : FS := mkFn 1 1 F_is_integer
theorem ok_is_integer {P : Program} {w : World} {K : PySem.W.Frag} {mg : Str → Option Value} {base : Heap} (D : Df K mg "is_integer" sd_is_integer) (z_isinstance : mg "isinstance" = none) (z_bool : mg "bool" = none) (z_int : mg "int" = none) : Cal P w K mg base "is_integer" sd_is_integer 1 ps_is_integer m_is_integer := cal_mk (N := N_is_integer) D sc_is_integer bp_is_integer (by decide) (fun f cdv A outer s H E hgd hr => by
  have hu := hr.units
  exact (ss_one (s1_ret (se_and (isa_int (by rfl) z_isinstance (by rfl) z_int (nP 0 (by rfl) (.inl (by rfl)))).p (se_one (se_not (isa_bool (by rfl) z_isinstance (by rfl) z_bool (nP 0 (by rfl) (.inl (by rfl)))).p))))))
/-! ### is_count -/
abbrev sd_is_count : Stmt := topS 2
abbrev N_is_count : List Str := ["value"]
abbrev ps_is_count : List Str := ["value"]
theorem sc_is_count : FnScope N_is_count ps_is_count (defScope sd_is_count) := ⟨rfl, rfl, rfl, by decide +kernel, rfl, by decide +kernel, by decide +kernel⟩
theorem bp_is_count : BindP "is_count" sd_is_count ps_is_count := fun _ _ _ _ _ _ us hl => match us, hl with | [_], _ => rfl
def F_is_count : SS := (sRet (fAnd (fCall m_is_integer (aCons (fVar 0) aNil)) (fBin geD (fPk 0) (fC (.int 0)))))
def m_is_count : FS := mkFn 1 1 F_is_count
theorem ok_is_count {P : Program} {w : World} {K : PySem.W.Frag} {mg : Str → Option Value} {base : Heap} (D : Df K mg "is_count" sd_is_count) (c_is_integer : Cal P w K mg base "is_integer" sd_is_integer 1 ps_is_integer m_is_integer) : Cal P w K mg base "is_count" sd_is_count 2 ps_is_count m_is_count := cal_mk (N := N_is_count) D sc_is_count bp_is_count (by decide) (fun f cdv A outer s H E hgd hr => by
  have hu := hr.units
  exact (ss_one (s1_ret (se_and (cl c_is_integer hr (by decide) hgd (by rfl) (szs_cons (nZ 0 (by rfl) (.inl (by rfl))) szs_nil)).p (se_one (se_cmp op_ge ok_cmp (nP 0 (by rfl) (.inl (by rfl))) sz_int.p (nomark _)))))))
/-! ### is_small -/
abbrev sd_is_small : Stmt := topS 14
abbrev N_is_small : List Str := ["value"]
abbrev ps_is_small : List Str := ["value"]
theorem sc_is_small : FnScope N_is_small ps_is_small (defScope sd_is_small) := ⟨rfl, rfl, rfl, by decide +kernel, rfl, by decide +kernel, by decide +kernel⟩
theorem bp_is_small : BindP "is_small" sd_is_small ps_is_small := fun _ _ _ _ _ _ us hl => match us, hl with | [_], _ => rfl
def F_is_small : SS := (sRet (fAnd (fCall m_is_count (aCons (fVar 0) aNil)) (fBin leD (fPk 0) (fC (.int 999)))))
def m_is_small : FS := mkFn 1 1 F_is_small
theorem ok_is_small {P : Program} {w : World} {K : PySem.W.Frag} {mg : Str → Option Value} {base : Heap} (D : Df K mg "is_small" sd_is_small) (c_is_count : Cal P w K mg base "is_count" sd_is_count 2 ps_is_count m_is_count) (g_MOST_ROOM : ∃ t, mg "MOST_ROOM" = some (.int 999 t)) : Cal P w K mg base "is_small" sd_is_small 3 ps_is_small m_is_small := cal_mk (N := N_is_small) D sc_is_small bp_is_small (by decide) (fun f cdv A outer s H E hgd hr => by
  have hu := hr.units
  exact (ss_one (s1_ret (se_and (cl c_is_count hr (by decide) hgd (by rfl) (szs_cons (nZ 0 (by rfl) (.inl (by rfl))) szs_nil)).p (se_one (se_cmp op_le ok_cmp (nP 0 (by rfl) (.inl (by rfl))) (sz_gj (by rfl) g_MOST_ROOM).p (nomark _)))))))
/-! ### day_is_right -/
abbrev sd_day_is_right : Stmt := topS 15
abbrev N_day_is_right : List Str := ["value", "one"]
abbrev ps_day_is_right : List Str := ["value"]
theorem sc_day_is_right : FnScope N_day_is_right ps_day_is_right (defScope sd_day_is_right) := ⟨rfl, rfl, rfl, by decide +kernel, rfl, by decide +kernel, by decide +kernel⟩
theorem bp_day_is_right : BindP "day_is_right" sd_day_is_right ps_day_is_right := fun _ _ _ _ _ _ us hl => match us, hl with | [_], _ => rfl
def F_day_is_right : SS := (sSeq (sIf (bOr (bNot (fB (fIsa "tuple" (fPk 0)))) (bOr (fB (fBin neD (fCl lenD (aCons (fPk 0) aNil)) (fC (.int 3)))) (bNot (fB (fCl allD (aCons (fComp (wSeq (fVar 0)) (gN 1) bYes (fCall m_is_small (aCons (fVar 1) aNil)) [1]) aNil)))))) (sRet (fC (.bl false))) sNil)
  (sRet (fBin leD (fBin ixD (fPk 0) (fC (.int 1))) (fBin ixD (fPk 0) (fC (.int 2))))))
def m_day_is_right : FS := mkFn 2 1 F_day_is_right
theorem ok_day_is_right {P : Program} {w : World} {K : PySem.W.Frag} {mg : Str → Option Value} {base : Heap} (D : Df K mg "day_is_right" sd_day_is_right) (c_is_small : Cal P w K mg base "is_small" sd_is_small 3 ps_is_small m_is_small) (z_all : mg "all" = none) (z_len : mg "len" = none) (z_isinstance : mg "isinstance" = none) (z_tuple : mg "tuple" = none) : Cal P w K mg base "day_is_right" sd_day_is_right 4 ps_day_is_right m_day_is_right := cal_mk (N := N_day_is_right) D sc_day_is_right bp_day_is_right (by decide) (fun f cdv A outer s H E hgd hr => by
  have hu := hr.units
  exact (ss_cons (s1_if (sw_or (st_not (st_val (isa_tuple (by rfl) z_isinstance (by rfl) z_tuple (nP 0 (by rfl) (.inl (by rfl)))).p)) (sw_or (st_cmp (or_ne hu) ok_ne (b_len (by rfl) z_len (nP 0 (by rfl) (.inl (by rfl)))).p sz_int.p (nomark _)) (sw_or1 (st_not (st_val (b_all (by rfl) (by rfl) z_all (se_lc (own := [("one", 1)]) (by rfl) sc_day_is_right.nd (si_seq (nZ 0 (by rfl) (.inl (by rfl)))) (by rfl) (by rfl) (by decide) (fun _ _ _ _ _ => (sg_name (pg_name (i := 1) sc_day_is_right.nd (by rfl) (.inl (by rfl))))) (fun _ _ _ _ _ => sts_nil) (fun _ _ _ _ _ => (cl c_is_small hr (by decide) hgd (by rfl) (szs_cons (nZ 1 (by rfl) (.inl (by rfl))) szs_nil)))).p).p))))).st (ss_one (s1_ret sz_bl.se)) ss_nil)
  (ss_one (s1_ret (se_cmp op_le ok_cmp (se_ix or_ix ok_ix (nP 0 (by rfl) (.inl (by rfl))) sz_int.p (fun _ _ => rfl)).p (se_ix or_ix ok_ix (nP 0 (by rfl) (.inl (by rfl))) sz_int.p (fun _ _ => rfl)).p (nomark _))))))
/-! ### feed_is_right -/
abbrev sd_feed_is_right : Stmt := topS 16
abbrev N_feed_is_right : List Str := ["value", "day"]
abbrev ps_feed_is_right : List Str := ["value"]
theorem sc_feed_is_right : FnScope N_feed_is_right ps_feed_is_right (defScope sd_feed_is_right) := ⟨rfl, rfl, rfl, by decide +kernel, rfl, by decide +kernel, by decide +kernel⟩
theorem bp_feed_is_right : BindP "feed_is_right" sd_feed_is_right ps_feed_is_right := fun _ _ _ _ _ _ us hl => match us, hl with | [_], _ => rfl
def F_feed_is_right : SS := (sSeq (sIf (bOr (bNot (fB (fIsa "tuple" (fPk 0)))) (bOr (fB (fBin neD (fCl lenD (aCons (fPk 0) aNil)) (fC (.int 4)))) (bOr (bNot (fB (fIsa "str" (fBin ixD (fPk 0) (fC (.int 0)))))) (fB (fBin neD (fBin ixD (fPk 0) (fC (.int 0))) (fC (.str "feed"))))))) (sRet (fC (.bl false))) sNil)
  (sSeq (sIf (bOr (bNot (fB (fCall m_is_small (aCons (fZ (fBin ixD (fPk 0) (fC (.int 1)))) aNil)))) (bOr (bNot (fB (fCall m_is_small (aCons (fZ (fBin ixD (fPk 0) (fC (.int 2)))) aNil)))) (fB (fBin gtD (fBin ixD (fPk 0) (fC (.int 2))) (fBin ixD (fPk 0) (fC (.int 1))))))) (sRet (fC (.bl false))) sNil)
  (sSeq (sIf (bOr (bNot (fB (fIsa "tuple" (fBin ixD (fPk 0) (fC (.int 3)))))) (bNot (fB (fChain leD leD (fC (.int 1)) (fCl lenD (aCons (fBin ixD (fPk 0) (fC (.int 3))) aNil)) (fC (.int 8)))))) (sRet (fC (.bl false))) sNil)
  (sRet (fCl allD (aCons (fComp (wSeq (fZ (fBin ixD (fPk 0) (fC (.int 3))))) (gN 1) bYes (fCall m_day_is_right (aCons (fVar 1) aNil)) [1]) aNil))))))
def m_feed_is_right : FS := mkFn 2 1 F_feed_is_right
theorem ok_feed_is_right {P : Program} {w : World} {K : PySem.W.Frag} {mg : Str → Option Value} {base : Heap} (D : Df K mg "feed_is_right" sd_feed_is_right) (c_is_small : Cal P w K mg base "is_small" sd_is_small 3 ps_is_small m_is_small) (c_day_is_right : Cal P w K mg base "day_is_right" sd_day_is_right 4 ps_day_is_right m_day_is_right) (z_isinstance : mg "isinstance" = none) (z_str : mg "str" = none) (z_len : mg "len" = none) (z_tuple : mg "tuple" = none) (z_all : mg "all" = none) (g_MOST_DAYS : ∃ t, mg "MOST_DAYS" = some (.int 8 t)) : Cal P w K mg base "feed_is_right" sd_feed_is_right 5 ps_feed_is_right m_feed_is_right := cal_mk (N := N_feed_is_right) D sc_feed_is_right bp_feed_is_right (by decide) (fun f cdv A outer s H E hgd hr => by
  have hu := hr.units
  exact (ss_cons (s1_if (sw_or (st_not (st_val (isa_tuple (by rfl) z_isinstance (by rfl) z_tuple (nP 0 (by rfl) (.inl (by rfl)))).p)) (sw_or (st_cmp (or_ne hu) ok_ne (b_len (by rfl) z_len (nP 0 (by rfl) (.inl (by rfl)))).p sz_int.p (nomark _)) (sw_or (st_not (st_val (isa_str (by rfl) z_isinstance (by rfl) z_str (se_ix or_ix ok_ix (nP 0 (by rfl) (.inl (by rfl))) sz_int.p (fun _ _ => rfl)).p).p)) (sw_or1 (st_cmp (or_ne hu) ok_ne (se_ix or_ix ok_ix (nP 0 (by rfl) (.inl (by rfl))) sz_int.p (fun _ _ => rfl)).p sz_str.p (nomark _)))))).st (ss_one (s1_ret sz_bl.se)) ss_nil)
  (ss_cons (s1_if (sw_or (st_not (st_val (cl c_is_small hr (by decide) hgd (by rfl) (szs_cons (se_ix or_ix ok_ix (nP 0 (by rfl) (.inl (by rfl))) sz_int.p (fun _ _ => rfl)).z szs_nil)).p)) (sw_or (st_not (st_val (cl c_is_small hr (by decide) hgd (by rfl) (szs_cons (se_ix or_ix ok_ix (nP 0 (by rfl) (.inl (by rfl))) sz_int.p (fun _ _ => rfl)).z szs_nil)).p)) (sw_or1 (st_cmp op_gt ok_cmp (se_ix or_ix ok_ix (nP 0 (by rfl) (.inl (by rfl))) sz_int.p (fun _ _ => rfl)).p (se_ix or_ix ok_ix (nP 0 (by rfl) (.inl (by rfl))) sz_int.p (fun _ _ => rfl)).p (nomark _))))).st (ss_one (s1_ret sz_bl.se)) ss_nil)
  (ss_cons (s1_if (sw_or (st_not (st_val (isa_tuple (by rfl) z_isinstance (by rfl) z_tuple (se_ix or_ix ok_ix (nP 0 (by rfl) (.inl (by rfl))) sz_int.p (fun _ _ => rfl)).p).p)) (sw_or1 (st_not (st_chain op_le ok_cmp op_le ok_cmp sz_int.p (b_len (by rfl) z_len (se_ix or_ix ok_ix (nP 0 (by rfl) (.inl (by rfl))) sz_int.p (fun _ _ => rfl)).p).p (sz_gj (by rfl) g_MOST_DAYS).p)))).st (ss_one (s1_ret sz_bl.se)) ss_nil)
  (ss_one (s1_ret (b_all (by rfl) (by rfl) z_all (se_lc (own := [("day", 1)]) (by rfl) sc_feed_is_right.nd (si_seq (se_ix or_ix ok_ix (nP 0 (by rfl) (.inl (by rfl))) sz_int.p (fun _ _ => rfl)).z) (by rfl) (by rfl) (by decide) (fun _ _ _ _ _ => (sg_name (pg_name (i := 1) sc_feed_is_right.nd (by rfl) (.inl (by rfl))))) (fun _ _ _ _ _ => sts_nil) (fun _ _ _ _ _ => (cl c_day_is_right hr (by decide) hgd (by rfl) (szs_cons (nZ 1 (by rfl) (.inl (by rfl))) szs_nil)))).p)))))))
/-! ### check_feed -/
abbrev sd_check_feed : Stmt := topS 17
abbrev N_check_feed : List Str := ["feed"]
abbrev ps_check_feed : List Str := ["feed"]
theorem sc_check_feed : FnScope N_check_feed ps_check_feed (defScope sd_check_feed) := ⟨rfl, rfl, rfl, by decide +kernel, rfl, by decide +kernel, by decide +kernel⟩
theorem bp_check_feed : BindP "check_feed" sd_check_feed ps_check_feed := fun _ _ _ _ _ _ us hl => match us, hl with | [_], _ => rfl
def F_check_feed : SS := (sIf (bNot (fB (fCall m_feed_is_right (aCons (fVar 0) aNil)))) sNo sNil)
def m_check_feed : FS := mkFn 1 1 F_check_feed
theorem ok_check_feed {P : Program} {w : World} {K : PySem.W.Frag} {mg : Str → Option Value} {base : Heap} (D : Df K mg "check_feed" sd_check_feed) (c_feed_is_right : Cal P w K mg base "feed_is_right" sd_feed_is_right 5 ps_feed_is_right m_feed_is_right) : Cal P w K mg base "check_feed" sd_check_feed 6 ps_check_feed m_check_feed := cal_mk (N := N_check_feed) D sc_check_feed bp_check_feed (by decide) (fun f cdv A outer s H E hgd hr => by
  have hu := hr.units
  exact (ss_one (s1_if (st_not (st_val (cl c_feed_is_right hr (by decide) hgd (by rfl) (szs_cons (nZ 0 (by rfl) (.inl (by rfl))) szs_nil)).p)) (ss_one s1_no) ss_nil)))
/-! ### steps_of -/
abbrev sd_steps_of : Stmt := topS 25
abbrev N_steps_of : List Str := ["row", "one", "later"]
abbrev ps_steps_of : List Str := ["row"]
theorem sc_steps_of : FnScope N_steps_of ps_steps_of (defScope sd_steps_of) := ⟨rfl, rfl, rfl, by decide +kernel, rfl, by decide +kernel, by decide +kernel⟩
theorem bp_steps_of : BindP "steps_of" sd_steps_of ps_steps_of := fun _ _ _ _ _ _ us hl => match us, hl with | [_], _ => rfl
def F_steps_of : SS := (sRet (fComp (wZipX (aCons (fVar 0) (aCons (fZ (fSl (fPk 0) (oE (fC (.int 1))) oNo)) aNil))) (gTupS (gConsS (gN 1) (gConsS (gN 2) gNilS)) 2) bYes (fBin subD (fPk 2) (fPk 1)) [1, 2]))
def m_steps_of : FS := mkFn 3 1 F_steps_of
theorem ok_steps_of {P : Program} {w : World} {K : PySem.W.Frag} {mg : Str → Option Value} {base : Heap} (D : Df K mg "steps_of" sd_steps_of) (z_zip : mg "zip" = none) : Cal P w K mg base "steps_of" sd_steps_of 1 ps_steps_of m_steps_of := cal_mk (N := N_steps_of) D sc_steps_of bp_steps_of (by decide) (fun f cdv A outer s H E hgd hr => by
  have hu := hr.units
  exact (ss_one (s1_ret (se_lc (own := [("one", 1), ("later", 2)]) (by rfl) sc_steps_of.nd (si_zipX (by rfl) z_zip (szs_cons (nZ 0 (by rfl) (.inl (by rfl))) (szs_cons (se_sl (nP 0 (by rfl) (.inl (by rfl))) (so_e sz_int.p) so_no).z szs_nil))) (by rfl) (by rfl) (by decide) (fun _ _ _ _ _ => (sg_tup (pg_tup (by rfl) (sgs_cons (sg_name (pg_name (i := 1) sc_steps_of.nd (by rfl) (.inl (by rfl)))) (sgs_cons (sg_name (pg_name (i := 2) sc_steps_of.nd (by rfl) (.inl (by rfl)))) sgs_nil (pgs_cons (sg_name (pg_name (i := 2) sc_steps_of.nd (by rfl) (.inl (by rfl)))) sgs_nil)) (pgs_cons (sg_name (pg_name (i := 1) sc_steps_of.nd (by rfl) (.inl (by rfl)))) (sgs_cons (sg_name (pg_name (i := 2) sc_steps_of.nd (by rfl) (.inl (by rfl)))) sgs_nil (pgs_cons (sg_name (pg_name (i := 2) sc_steps_of.nd (by rfl) (.inl (by rfl)))) sgs_nil))))))) (fun _ _ _ _ _ => sts_nil) (fun _ _ _ _ _ => (se_bin op_sub ok_sub (nP 2 (by rfl) (.inl (by rfl))) (nP 1 (by rfl) (.inl (by rfl)))))))))
/-! ### is_too_much -/
abbrev sd_is_too_much : Stmt := topS 20
abbrev N_is_too_much : List Str := ["feed", "kind", "begin", "end", "days", "first", "brought", "day"]
abbrev ps_is_too_much : List Str := ["feed", "kind", "begin", "end"]
theorem sc_is_too_much : FnScope N_is_too_much ps_is_too_much (defScope sd_is_too_much) := ⟨rfl, rfl, rfl, by decide +kernel, rfl, by decide +kernel, by decide +kernel⟩
theorem bp_is_too_much : BindP "is_too_much" sd_is_too_much ps_is_too_much := fun _ _ _ _ _ _ us hl => match us, hl with | [_, _, _, _], _ => rfl
def F_is_too_much : SS := (sSeq (sPar 4 5 (aCons (fSl (fBin ixD (fPk 0) (fC (.int 3))) (oE (fPk 2)) (oE (fBin addD (fPk 3) (fC (.int 1))))) (aCons (fIf (fB (fBin eqD (fPk 2) (fC (.int 0)))) (fBin ixD (fPk 0) (fC (.int 2))) (fC .non)) aNil)))
  (sSeq (sAsg 6 (fCl sum2D (aCons (fComp (wSeq (fVar 4)) (gN 7) bYes (fBin ixD (fPk 7) (fC (.int 0))) [7]) aNil)))
  (sSeq (sIf (fB (fBin eqD (fPk 1) (fC (.str "little")))) (sRet (fBin gtD (fCl sum2D (aCons (fComp (wSeq (fVar 4)) (gN 7) bYes (fBin ixD (fPk 7) (fC (.int 1))) [7]) aNil)) (fBin addD (fPk 6) (fIf (fB (fBin isND (fPk 5) (fC .non))) (fBin ixD (fPk 0) (fC (.int 1))) (fVar 5))))) sNil)
  (sRet (fBin gtD (fBin addD (fPk 6) (fIf (fB (fBin isND (fPk 5) (fC .non))) (fC (.int 0)) (fVar 5))) (fBin addD (fBin ixD (fPk 0) (fC (.int 1))) (fCl sum2D (aCons (fComp (wSeq (fVar 4)) (gN 7) bYes (fBin ixD (fPk 7) (fC (.int 2))) [7]) aNil))))))))
def m_is_too_much : FS := mkFn 8 4 F_is_too_much
theorem ok_is_too_much {P : Program} {w : World} {K : PySem.W.Frag} {mg : Str → Option Value} {base : Heap} (D : Df K mg "is_too_much" sd_is_too_much) (z_sum : mg "sum" = none) : Cal P w K mg base "is_too_much" sd_is_too_much 1 ps_is_too_much m_is_too_much := cal_mk (N := N_is_too_much) D sc_is_too_much bp_is_too_much (by decide) (fun f cdv A outer s H E hgd hr => by
  have hu := hr.units
  exact (ss_cons (s1_par (by rfl) sc_is_too_much.nd (by rfl) (by rfl) (by decide) (by rfl) (by rfl) (ses_cons (se_sl (se_ix or_ix ok_ix (nP 0 (by rfl) (.inl (by rfl))) sz_int.p (fun _ _ => rfl)).p (so_e (nP 2 (by rfl) (.inl (by rfl)))) (so_e (se_bin or_add ok_add (nP 3 (by rfl) (.inl (by rfl))) sz_int.p).p)) (ses_cons (se_if (st_cmp (or_eq hu) ok_eq (nP 2 (by rfl) (.inl (by rfl))) sz_int.p (nomark _)) (se_ix or_ix ok_ix (nP 0 (by rfl) (.inl (by rfl))) sz_int.p (fun _ _ => rfl)) sz_non.se) ses_nil)) (by rfl))
  (ss_cons (s1_asg sc_is_too_much.nd (by rfl) (.inl (by rfl)) (b_sum2 (by rfl) (by rfl) z_sum (se_lc (own := [("day", 7)]) (by rfl) sc_is_too_much.nd (si_seq (nZ 4 (by rfl) (.inl (by rfl)))) (by rfl) (by rfl) (by decide) (fun _ _ _ _ _ => (sg_name (pg_name (i := 7) sc_is_too_much.nd (by rfl) (.inl (by rfl))))) (fun _ _ _ _ _ => sts_nil) (fun _ _ _ _ _ => (se_ix or_ix ok_ix (nP 7 (by rfl) (.inl (by rfl))) sz_int.p (fun _ _ => rfl)))).p))
  (ss_cons (s1_if (st_cmp (or_eq hu) ok_eq (nP 1 (by rfl) (.inl (by rfl))) sz_str.p (nomark _)) (ss_one (s1_ret (se_cmp op_gt ok_cmp (b_sum2 (by rfl) (by rfl) z_sum (se_lc (own := [("day", 7)]) (by rfl) sc_is_too_much.nd (si_seq (nZ 4 (by rfl) (.inl (by rfl)))) (by rfl) (by rfl) (by decide) (fun _ _ _ _ _ => (sg_name (pg_name (i := 7) sc_is_too_much.nd (by rfl) (.inl (by rfl))))) (fun _ _ _ _ _ => sts_nil) (fun _ _ _ _ _ => (se_ix or_ix ok_ix (nP 7 (by rfl) (.inl (by rfl))) sz_int.p (fun _ _ => rfl)))).p).p (se_bin or_add ok_add (nP 6 (by rfl) (.inl (by rfl))) (se_if (st_cmp op_isN ok_isN (nP 5 (by rfl) (.inl (by rfl))) sz_non.p (nomark _)) (se_ix or_ix ok_ix (nP 0 (by rfl) (.inl (by rfl))) sz_int.p (fun _ _ => rfl)) (nZ 5 (by rfl) (.inl (by rfl))).se).p).p (nomark _)))) ss_nil)
  (ss_one (s1_ret (se_cmp op_gt ok_cmp (se_bin or_add ok_add (nP 6 (by rfl) (.inl (by rfl))) (se_if (st_cmp op_isN ok_isN (nP 5 (by rfl) (.inl (by rfl))) sz_non.p (nomark _)) sz_int.se (nZ 5 (by rfl) (.inl (by rfl))).se).p).p (se_bin or_add ok_add (se_ix or_ix ok_ix (nP 0 (by rfl) (.inl (by rfl))) sz_int.p (fun _ _ => rfl)).p (b_sum2 (by rfl) (by rfl) z_sum (se_lc (own := [("day", 7)]) (by rfl) sc_is_too_much.nd (si_seq (nZ 4 (by rfl) (.inl (by rfl)))) (by rfl) (by rfl) (by decide) (fun _ _ _ _ _ => (sg_name (pg_name (i := 7) sc_is_too_much.nd (by rfl) (.inl (by rfl))))) (fun _ _ _ _ _ => sts_nil) (fun _ _ _ _ _ => (se_ix or_ix ok_ix (nP 7 (by rfl) (.inl (by rfl))) sz_int.p (fun _ _ => rfl)))).p).p).p (nomark _))))))))
/-! ### first_stretch_of -/
abbrev sd_first_stretch_of : Stmt := topS 21
abbrev N_first_stretch_of : List Str := ["feed", "kind", "begin", "end"]
abbrev ps_first_stretch_of : List Str := ["feed"]
theorem sc_first_stretch_of : FnScope N_first_stretch_of ps_first_stretch_of (defScope sd_first_stretch_of) := ⟨rfl, rfl, rfl, by decide +kernel, rfl, by decide +kernel, by decide +kernel⟩
theorem bp_first_stretch_of : BindP "first_stretch_of" sd_first_stretch_of ps_first_stretch_of := fun _ _ _ _ _ _ us hl => match us, hl with | [_], _ => rfl
def F_first_stretch_of : SS := (sSeq (sFor (wSeq (fC (.tup [.str "little", .str "much"]))) (gN 1) (sFor (wRng1 (aCons (fCl lenD (aCons (fBin ixD (fPk 0) (fC (.int 3))) aNil)) aNil)) (gN 2) (sFor (wRng2 (aCons (fPk 2) (aCons (fCl lenD (aCons (fBin ixD (fPk 0) (fC (.int 3))) aNil)) aNil))) (gN 3) (sIf (fB (fCall m_is_too_much (aCons (fVar 0) (aCons (fVar 1) (aCons (fVar 2) (aCons (fVar 3) aNil)))))) (sRet (fTup (aCons (fMv 1) (aCons (fMv 2) (aCons (fMv 3) aNil))))) sNil))))
  (sRet (fC .non)))
def m_first_stretch_of : FS := mkFn 4 1 F_first_stretch_of
theorem ok_first_stretch_of {P : Program} {w : World} {K : PySem.W.Frag} {mg : Str → Option Value} {base : Heap} (D : Df K mg "first_stretch_of" sd_first_stretch_of) (c_is_too_much : Cal P w K mg base "is_too_much" sd_is_too_much 1 ps_is_too_much m_is_too_much) (z_len : mg "len" = none) (z_range : mg "range" = none) (g_KINDS : Gd K mg "KINDS" [.str "little", .str "much"]) : Cal P w K mg base "first_stretch_of" sd_first_stretch_of 2 ps_first_stretch_of m_first_stretch_of := cal_mk (N := N_first_stretch_of) D sc_first_stretch_of bp_first_stretch_of (by decide) (fun f cdv A outer s H E hgd hr => by
  have hu := hr.units
  exact (ss_cons (s1_for PassesOwn.never (by rfl) (si_seq (sz_gd (by rfl) g_KINDS)) (sg_name (pg_name (i := 1) sc_first_stretch_of.nd (by rfl) (.inl (by rfl)))) (ss_one (s1_for PassesOwn.never (by rfl) (si_rng1 (by rfl) z_range (sps_cons (b_len (by rfl) z_len (se_ix or_ix ok_ix (nP 0 (by rfl) (.inl (by rfl))) sz_int.p (fun _ _ => rfl)).p).p sps_nil)) (sg_name (pg_name (i := 2) sc_first_stretch_of.nd (by rfl) (.inl (by rfl)))) (ss_one (s1_for PassesOwn.never (by rfl) (si_rng2 (by rfl) z_range (sps_cons (nP 2 (by rfl) (.inl (by rfl))) (sps_cons (b_len (by rfl) z_len (se_ix or_ix ok_ix (nP 0 (by rfl) (.inl (by rfl))) sz_int.p (fun _ _ => rfl)).p).p sps_nil))) (sg_name (pg_name (i := 3) sc_first_stretch_of.nd (by rfl) (.inl (by rfl)))) (ss_one (s1_if (st_val (cl c_is_too_much hr (by decide) hgd (by rfl) (szs_cons (nZ 0 (by rfl) (.inl (by rfl))) (szs_cons (nZ 1 (by rfl) (.inl (by rfl))) (szs_cons (nZ 2 (by rfl) (.inl (by rfl))) (szs_cons (nZ 3 (by rfl) (.inl (by rfl))) szs_nil))))).p) (ss_one (s1_ret (se_tup (ses_cons (nM 1 (by rfl) (.inl (by rfl))) (ses_cons (nM 2 (by rfl) (.inl (by rfl))) (ses_cons (nM 3 (by rfl) (.inl (by rfl))) ses_nil)))))) ss_nil)))))))
  (ss_one (s1_ret sz_non.se))))
/-! ### had_of -/
abbrev sd_had_of : Stmt := topS 22
abbrev N_had_of : List Str := ["feed", "found", "brought", "low", "high"]
abbrev ps_had_of : List Str := ["feed"]
theorem sc_had_of : FnScope N_had_of ps_had_of (defScope sd_had_of) := ⟨rfl, rfl, rfl, by decide +kernel, rfl, by decide +kernel, by decide +kernel⟩
theorem bp_had_of : BindP "had_of" sd_had_of ps_had_of := fun _ _ _ _ _ _ us hl => match us, hl with | [_], _ => rfl
def F_had_of : SS := (sSeq (sAsg 1 (fLst (aCons (fBin ixD (fPk 0) (fC (.int 2))) aNil)))
  (sSeq (sFor (wSeq (fZ (fBin ixD (fPk 0) (fC (.int 3))))) (gTupS (gConsS (gN 2) (gConsS (gN 3) (gConsS (gN 4) gNilS))) 3) (sApp 1 (fBin addD (fBin ixD (fPk 1) (fUn negD (fC (.int 1)))) (fPk 2))))
  (sRet (fMv 1))))
def m_had_of : FS := mkFn 5 1 F_had_of
theorem ok_had_of {P : Program} {w : World} {K : PySem.W.Frag} {mg : Str → Option Value} {base : Heap} (D : Df K mg "had_of" sd_had_of)  : Cal P w K mg base "had_of" sd_had_of 1 ps_had_of m_had_of := cal_mk (N := N_had_of) D sc_had_of bp_had_of (by decide) (fun f cdv A outer s H E hgd hr => by
  have hu := hr.units
  exact (ss_cons (s1_asg sc_had_of.nd (by rfl) (.inl (by rfl)) (se_lst (ses_cons (se_ix or_ix ok_ix (nP 0 (by rfl) (.inl (by rfl))) sz_int.p (fun _ _ => rfl)) ses_nil)))
  (ss_cons (s1_for PassesOwn.never (by rfl) (si_seq (se_ix or_ix ok_ix (nP 0 (by rfl) (.inl (by rfl))) sz_int.p (fun _ _ => rfl)).z) (sg_tup (pg_tup (by rfl) (sgs_cons (sg_name (pg_name (i := 2) sc_had_of.nd (by rfl) (.inl (by rfl)))) (sgs_cons (sg_name (pg_name (i := 3) sc_had_of.nd (by rfl) (.inl (by rfl)))) (sgs_cons (sg_name (pg_name (i := 4) sc_had_of.nd (by rfl) (.inl (by rfl)))) sgs_nil (pgs_cons (sg_name (pg_name (i := 4) sc_had_of.nd (by rfl) (.inl (by rfl)))) sgs_nil)) (pgs_cons (sg_name (pg_name (i := 3) sc_had_of.nd (by rfl) (.inl (by rfl)))) (sgs_cons (sg_name (pg_name (i := 4) sc_had_of.nd (by rfl) (.inl (by rfl)))) sgs_nil (pgs_cons (sg_name (pg_name (i := 4) sc_had_of.nd (by rfl) (.inl (by rfl)))) sgs_nil)))) (pgs_cons (sg_name (pg_name (i := 2) sc_had_of.nd (by rfl) (.inl (by rfl)))) (sgs_cons (sg_name (pg_name (i := 3) sc_had_of.nd (by rfl) (.inl (by rfl)))) (sgs_cons (sg_name (pg_name (i := 4) sc_had_of.nd (by rfl) (.inl (by rfl)))) sgs_nil (pgs_cons (sg_name (pg_name (i := 4) sc_had_of.nd (by rfl) (.inl (by rfl)))) sgs_nil)) (pgs_cons (sg_name (pg_name (i := 3) sc_had_of.nd (by rfl) (.inl (by rfl)))) (sgs_cons (sg_name (pg_name (i := 4) sc_had_of.nd (by rfl) (.inl (by rfl)))) sgs_nil (pgs_cons (sg_name (pg_name (i := 4) sc_had_of.nd (by rfl) (.inl (by rfl)))) sgs_nil)))))))) (ss_one (s1_app (pe_var (i := 1) (by rfl) (.inl (by rfl))) (se_bin or_add ok_add (se_ix or_ix ok_ix (nP 1 (by rfl) (.inl (by rfl))) (se_un un_neg ok_neg sz_int.p).p (fun _ _ => rfl)).p (nP 2 (by rfl) (.inl (by rfl)))))))
  (ss_one (s1_ret (nM 1 (by rfl) (.inl (by rfl))))))))
/-! ### least_row -/
abbrev sd_least_row : Stmt := topS 23
abbrev N_least_row : List Str := ["feed", "had", "days", "found", "at", "brought", "low", "high"]
abbrev ps_least_row : List Str := ["feed"]
theorem sc_least_row : FnScope N_least_row ps_least_row (defScope sd_least_row) := ⟨rfl, rfl, rfl, by decide +kernel, rfl, by decide +kernel, by decide +kernel⟩
theorem bp_least_row : BindP "least_row" sd_least_row ps_least_row := fun _ _ _ _ _ _ us hl => match us, hl with | [_], _ => rfl
def F_least_row : SS := (sSeq (sPar 1 2 (aCons (fCall m_had_of (aCons (fVar 0) aNil)) (aCons (fBin ixD (fPk 0) (fC (.int 3))) aNil)))
  (sSeq (sAsg 3 (fLst (aCons (fC (.int 0)) aNil)))
  (sSeq (sFor (wEnum (aCons (fVar 2) aNil)) (gTupS (gConsS (gN 4) (gConsS (gTupS (gConsS (gN 5) (gConsS (gN 6) (gConsS (gN 7) gNilS))) 3) gNilS)) 2) (sApp 3 (fCl max2D (aCons (fBin addD (fBin ixD (fPk 3) (fUn negD (fC (.int 1)))) (fPk 6)) (aCons (fBin subD (fBin ixD (fPk 1) (fBin addD (fPk 4) (fC (.int 1)))) (fBin ixD (fPk 0) (fC (.int 1)))) aNil)))))
  (sSeq (sFor (wRng3 (aCons (fBin subD (fCl lenD (aCons (fPk 2) aNil)) (fC (.int 1))) (aCons (fUn negD (fC (.int 1))) (aCons (fUn negD (fC (.int 1))) aNil)))) (gN 4) (sSetO 3 (fPk 4) (fZ (fCl max2D (aCons (fBin ixD (fPk 3) (fPk 4)) (aCons (fBin subD (fBin ixD (fPk 3) (fBin addD (fPk 4) (fC (.int 1)))) (fBin ixD (fBin ixD (fPk 2) (fPk 4)) (fC (.int 2)))) aNil))))))
  (sRet (fMv 3))))))
def m_least_row : FS := mkFn 8 1 F_least_row
theorem ok_least_row {P : Program} {w : World} {K : PySem.W.Frag} {mg : Str → Option Value} {base : Heap} (D : Df K mg "least_row" sd_least_row) (c_had_of : Cal P w K mg base "had_of" sd_had_of 1 ps_had_of m_had_of) (z_enumerate : mg "enumerate" = none) (z_max : mg "max" = none) (z_len : mg "len" = none) (z_range : mg "range" = none) : Cal P w K mg base "least_row" sd_least_row 2 ps_least_row m_least_row := cal_mk (N := N_least_row) D sc_least_row bp_least_row (by decide) (fun f cdv A outer s H E hgd hr => by
  have hu := hr.units
  exact (ss_cons (s1_par (by rfl) sc_least_row.nd (by rfl) (by rfl) (by decide) (by rfl) (by rfl) (ses_cons (cl c_had_of hr (by decide) hgd (by rfl) (szs_cons (nZ 0 (by rfl) (.inl (by rfl))) szs_nil)) (ses_cons (se_ix or_ix ok_ix (nP 0 (by rfl) (.inl (by rfl))) sz_int.p (fun _ _ => rfl)) ses_nil)) (by rfl))
  (ss_cons (s1_asg sc_least_row.nd (by rfl) (.inl (by rfl)) (se_lst (ses_cons sz_int.se ses_nil)))
  (ss_cons (s1_for PassesOwn.never (by rfl) (si_enum (by rfl) z_enumerate (szs_cons (nZ 2 (by rfl) (.inl (by rfl))) szs_nil)) (sg_tup (pg_tup (by rfl) (sgs_cons (sg_name (pg_name (i := 4) sc_least_row.nd (by rfl) (.inl (by rfl)))) (sgs_cons (sg_tup (pg_tup (by rfl) (sgs_cons (sg_name (pg_name (i := 5) sc_least_row.nd (by rfl) (.inl (by rfl)))) (sgs_cons (sg_name (pg_name (i := 6) sc_least_row.nd (by rfl) (.inl (by rfl)))) (sgs_cons (sg_name (pg_name (i := 7) sc_least_row.nd (by rfl) (.inl (by rfl)))) sgs_nil (pgs_cons (sg_name (pg_name (i := 7) sc_least_row.nd (by rfl) (.inl (by rfl)))) sgs_nil)) (pgs_cons (sg_name (pg_name (i := 6) sc_least_row.nd (by rfl) (.inl (by rfl)))) (sgs_cons (sg_name (pg_name (i := 7) sc_least_row.nd (by rfl) (.inl (by rfl)))) sgs_nil (pgs_cons (sg_name (pg_name (i := 7) sc_least_row.nd (by rfl) (.inl (by rfl)))) sgs_nil)))) (pgs_cons (sg_name (pg_name (i := 5) sc_least_row.nd (by rfl) (.inl (by rfl)))) (sgs_cons (sg_name (pg_name (i := 6) sc_least_row.nd (by rfl) (.inl (by rfl)))) (sgs_cons (sg_name (pg_name (i := 7) sc_least_row.nd (by rfl) (.inl (by rfl)))) sgs_nil (pgs_cons (sg_name (pg_name (i := 7) sc_least_row.nd (by rfl) (.inl (by rfl)))) sgs_nil)) (pgs_cons (sg_name (pg_name (i := 6) sc_least_row.nd (by rfl) (.inl (by rfl)))) (sgs_cons (sg_name (pg_name (i := 7) sc_least_row.nd (by rfl) (.inl (by rfl)))) sgs_nil (pgs_cons (sg_name (pg_name (i := 7) sc_least_row.nd (by rfl) (.inl (by rfl)))) sgs_nil)))))))) sgs_nil (pgs_cons (sg_tup (pg_tup (by rfl) (sgs_cons (sg_name (pg_name (i := 5) sc_least_row.nd (by rfl) (.inl (by rfl)))) (sgs_cons (sg_name (pg_name (i := 6) sc_least_row.nd (by rfl) (.inl (by rfl)))) (sgs_cons (sg_name (pg_name (i := 7) sc_least_row.nd (by rfl) (.inl (by rfl)))) sgs_nil (pgs_cons (sg_name (pg_name (i := 7) sc_least_row.nd (by rfl) (.inl (by rfl)))) sgs_nil)) (pgs_cons (sg_name (pg_name (i := 6) sc_least_row.nd (by rfl) (.inl (by rfl)))) (sgs_cons (sg_name (pg_name (i := 7) sc_least_row.nd (by rfl) (.inl (by rfl)))) sgs_nil (pgs_cons (sg_name (pg_name (i := 7) sc_least_row.nd (by rfl) (.inl (by rfl)))) sgs_nil)))) (pgs_cons (sg_name (pg_name (i := 5) sc_least_row.nd (by rfl) (.inl (by rfl)))) (sgs_cons (sg_name (pg_name (i := 6) sc_least_row.nd (by rfl) (.inl (by rfl)))) (sgs_cons (sg_name (pg_name (i := 7) sc_least_row.nd (by rfl) (.inl (by rfl)))) sgs_nil (pgs_cons (sg_name (pg_name (i := 7) sc_least_row.nd (by rfl) (.inl (by rfl)))) sgs_nil)) (pgs_cons (sg_name (pg_name (i := 6) sc_least_row.nd (by rfl) (.inl (by rfl)))) (sgs_cons (sg_name (pg_name (i := 7) sc_least_row.nd (by rfl) (.inl (by rfl)))) sgs_nil (pgs_cons (sg_name (pg_name (i := 7) sc_least_row.nd (by rfl) (.inl (by rfl)))) sgs_nil)))))))) sgs_nil)) (pgs_cons (sg_name (pg_name (i := 4) sc_least_row.nd (by rfl) (.inl (by rfl)))) (sgs_cons (sg_tup (pg_tup (by rfl) (sgs_cons (sg_name (pg_name (i := 5) sc_least_row.nd (by rfl) (.inl (by rfl)))) (sgs_cons (sg_name (pg_name (i := 6) sc_least_row.nd (by rfl) (.inl (by rfl)))) (sgs_cons (sg_name (pg_name (i := 7) sc_least_row.nd (by rfl) (.inl (by rfl)))) sgs_nil (pgs_cons (sg_name (pg_name (i := 7) sc_least_row.nd (by rfl) (.inl (by rfl)))) sgs_nil)) (pgs_cons (sg_name (pg_name (i := 6) sc_least_row.nd (by rfl) (.inl (by rfl)))) (sgs_cons (sg_name (pg_name (i := 7) sc_least_row.nd (by rfl) (.inl (by rfl)))) sgs_nil (pgs_cons (sg_name (pg_name (i := 7) sc_least_row.nd (by rfl) (.inl (by rfl)))) sgs_nil)))) (pgs_cons (sg_name (pg_name (i := 5) sc_least_row.nd (by rfl) (.inl (by rfl)))) (sgs_cons (sg_name (pg_name (i := 6) sc_least_row.nd (by rfl) (.inl (by rfl)))) (sgs_cons (sg_name (pg_name (i := 7) sc_least_row.nd (by rfl) (.inl (by rfl)))) sgs_nil (pgs_cons (sg_name (pg_name (i := 7) sc_least_row.nd (by rfl) (.inl (by rfl)))) sgs_nil)) (pgs_cons (sg_name (pg_name (i := 6) sc_least_row.nd (by rfl) (.inl (by rfl)))) (sgs_cons (sg_name (pg_name (i := 7) sc_least_row.nd (by rfl) (.inl (by rfl)))) sgs_nil (pgs_cons (sg_name (pg_name (i := 7) sc_least_row.nd (by rfl) (.inl (by rfl)))) sgs_nil)))))))) sgs_nil (pgs_cons (sg_tup (pg_tup (by rfl) (sgs_cons (sg_name (pg_name (i := 5) sc_least_row.nd (by rfl) (.inl (by rfl)))) (sgs_cons (sg_name (pg_name (i := 6) sc_least_row.nd (by rfl) (.inl (by rfl)))) (sgs_cons (sg_name (pg_name (i := 7) sc_least_row.nd (by rfl) (.inl (by rfl)))) sgs_nil (pgs_cons (sg_name (pg_name (i := 7) sc_least_row.nd (by rfl) (.inl (by rfl)))) sgs_nil)) (pgs_cons (sg_name (pg_name (i := 6) sc_least_row.nd (by rfl) (.inl (by rfl)))) (sgs_cons (sg_name (pg_name (i := 7) sc_least_row.nd (by rfl) (.inl (by rfl)))) sgs_nil (pgs_cons (sg_name (pg_name (i := 7) sc_least_row.nd (by rfl) (.inl (by rfl)))) sgs_nil)))) (pgs_cons (sg_name (pg_name (i := 5) sc_least_row.nd (by rfl) (.inl (by rfl)))) (sgs_cons (sg_name (pg_name (i := 6) sc_least_row.nd (by rfl) (.inl (by rfl)))) (sgs_cons (sg_name (pg_name (i := 7) sc_least_row.nd (by rfl) (.inl (by rfl)))) sgs_nil (pgs_cons (sg_name (pg_name (i := 7) sc_least_row.nd (by rfl) (.inl (by rfl)))) sgs_nil)) (pgs_cons (sg_name (pg_name (i := 6) sc_least_row.nd (by rfl) (.inl (by rfl)))) (sgs_cons (sg_name (pg_name (i := 7) sc_least_row.nd (by rfl) (.inl (by rfl)))) sgs_nil (pgs_cons (sg_name (pg_name (i := 7) sc_least_row.nd (by rfl) (.inl (by rfl)))) sgs_nil)))))))) sgs_nil)))))) (ss_one (s1_app (pe_var (i := 3) (by rfl) (.inl (by rfl))) (b_max2 (by rfl) (by rfl) z_max (se_bin or_add ok_add (se_ix or_ix ok_ix (nP 3 (by rfl) (.inl (by rfl))) (se_un un_neg ok_neg sz_int.p).p (fun _ _ => rfl)).p (nP 6 (by rfl) (.inl (by rfl)))).p (se_bin op_sub ok_sub (se_ix or_ix ok_ix (nP 1 (by rfl) (.inl (by rfl))) (se_bin or_add ok_add (nP 4 (by rfl) (.inl (by rfl))) sz_int.p).p (fun _ _ => rfl)).p (se_ix or_ix ok_ix (nP 0 (by rfl) (.inl (by rfl))) sz_int.p (fun _ _ => rfl)).p).p))))
  (ss_cons (s1_for PassesOwn.never (by rfl) (si_rng3 (by rfl) z_range (sps_cons (se_bin op_sub ok_sub (b_len (by rfl) z_len (nP 2 (by rfl) (.inl (by rfl)))).p sz_int.p).p (sps_cons (se_un un_neg ok_neg sz_int.p).p (sps_cons (se_un un_neg ok_neg sz_int.p).p sps_nil)))) (sg_name (pg_name (i := 4) sc_least_row.nd (by rfl) (.inl (by rfl)))) (ss_one (s1_seto (b_max2 (by rfl) (by rfl) z_max (se_ix or_ix ok_ix (nP 3 (by rfl) (.inl (by rfl))) (nP 4 (by rfl) (.inl (by rfl))) (fun _ _ => rfl)).p (se_bin op_sub ok_sub (se_ix or_ix ok_ix (nP 3 (by rfl) (.inl (by rfl))) (se_bin or_add ok_add (nP 4 (by rfl) (.inl (by rfl))) sz_int.p).p (fun _ _ => rfl)).p (se_ix or_ix ok_ix (se_ix or_ix ok_ix (nP 2 (by rfl) (.inl (by rfl))) (nP 4 (by rfl) (.inl (by rfl))) (fun _ _ => rfl)).p sz_int.p (fun _ _ => rfl)).p).p).z (pe_var (i := 3) (by rfl) (.inl (by rfl))) (nP 4 (by rfl) (.inl (by rfl))) (fun _ => rfl))))
  (ss_one (s1_ret (nM 3 (by rfl) (.inl (by rfl))))))))))
/-! ### first_run -/
abbrev sd_first_run : Stmt := topS 27
abbrev N_first_run : List Str := ["feed"]
abbrev ps_first_run : List Str := ["feed"]
theorem sc_first_run : FnScope N_first_run ps_first_run (defScope sd_first_run) := ⟨rfl, rfl, rfl, by decide +kernel, rfl, by decide +kernel, by decide +kernel⟩
theorem bp_first_run : BindP "first_run" sd_first_run ps_first_run := fun _ _ _ _ _ _ us hl => match us, hl with | [_], _ => rfl
def F_first_run : SS := (sSeq (sDrop (fCall m_check_feed (aCons (fVar 0) aNil)))
  (sRet (fIf (fB (fBin isND (fCall m_first_stretch_of (aCons (fVar 0) aNil)) (fC .non))) (fCall m_steps_of (aCons (fZ (fCall m_least_row (aCons (fVar 0) aNil))) aNil)) (fC .non))))
def m_first_run : FS := mkFn 1 1 F_first_run
theorem ok_first_run {P : Program} {w : World} {K : PySem.W.Frag} {mg : Str → Option Value} {base : Heap} (D : Df K mg "first_run" sd_first_run) (c_check_feed : Cal P w K mg base "check_feed" sd_check_feed 6 ps_check_feed m_check_feed) (c_first_stretch_of : Cal P w K mg base "first_stretch_of" sd_first_stretch_of 2 ps_first_stretch_of m_first_stretch_of) (c_steps_of : Cal P w K mg base "steps_of" sd_steps_of 1 ps_steps_of m_steps_of) (c_least_row : Cal P w K mg base "least_row" sd_least_row 2 ps_least_row m_least_row) : Cal P w K mg base "first_run" sd_first_run 7 ps_first_run m_first_run := cal_mk (N := N_first_run) D sc_first_run bp_first_run (by decide) (fun f cdv A outer s H E hgd hr => by
  have hu := hr.units
  exact (ss_cons (s1_expr (cl c_check_feed hr (by decide) hgd (by rfl) (szs_cons (nZ 0 (by rfl) (.inl (by rfl))) szs_nil)).p)
  (ss_one (s1_ret (se_if (st_cmp op_isN ok_isN (cl c_first_stretch_of hr (by decide) hgd (by rfl) (szs_cons (nZ 0 (by rfl) (.inl (by rfl))) szs_nil)).p sz_non.p (nomark _)) (cl c_steps_of hr (by decide) hgd (by rfl) (szs_cons (cl c_least_row hr (by decide) hgd (by rfl) (szs_cons (nZ 0 (by rfl) (.inl (by rfl))) szs_nil)).z szs_nil)) sz_non.se)))))
/-! ### _law_ends -/
abbrev sd__law_ends : Stmt := topS 42
abbrev N__law_ends : List Str := ["numbers"]
abbrev ps__law_ends : List Str := ["numbers"]
theorem sc__law_ends : FnScope N__law_ends ps__law_ends (defScope sd__law_ends) := ⟨rfl, rfl, rfl, by decide +kernel, rfl, by decide +kernel, by decide +kernel⟩
theorem bp__law_ends : BindP "_law_ends" sd__law_ends ps__law_ends := fun _ _ _ _ _ _ us hl => match us, hl with | [_], _ => rfl
def F__law_ends : SS := (sRet (fTup (aCons (fCl (ex2D PySem.W.minD) (aCons (fPk 0) aNil)) (aCons (fCl (ex2D PySem.W.maxD) (aCons (fPk 0) aNil)) aNil))))
def m__law_ends : FS := mkFn 1 1 F__law_ends
theorem ok__law_ends {P : Program} {w : World} {K : PySem.W.Frag} {mg : Str → Option Value} {base : Heap} (D : Df K mg "_law_ends" sd__law_ends) (z_max : mg "max" = none) (z_min : mg "min" = none) : Cal P w K mg base "_law_ends" sd__law_ends 1 ps__law_ends m__law_ends := cal_mk (N := N__law_ends) D sc__law_ends bp__law_ends (by decide) (fun f cdv A outer s H E hgd hr => by
  have hu := hr.units
  exact (ss_one (s1_ret (se_tup (ses_cons (b_min1t (by rfl) hu (by rfl) z_min (nP 0 (by rfl) (.inl (by rfl)))) (ses_cons (b_max1t (by rfl) hu (by rfl) z_max (nP 0 (by rfl) (.inl (by rfl)))) ses_nil))))))
/-! ### check_run_there -/
abbrev sd_check_run_there : Stmt := topS 19
abbrev N_check_run_there : List Str := ["feed", "stretch"]
abbrev ps_check_run_there : List Str := ["feed"]
theorem sc_check_run_there : FnScope N_check_run_there ps_check_run_there (defScope sd_check_run_there) := ⟨rfl, rfl, rfl, by decide +kernel, rfl, by decide +kernel, by decide +kernel⟩
theorem bp_check_run_there : BindP "check_run_there" sd_check_run_there ps_check_run_there := fun _ _ _ _ _ _ us hl => match us, hl with | [_], _ => rfl
def F_check_run_there : SS := (sSeq (sAsg 1 (fCall m_first_stretch_of (aCons (fVar 0) aNil)))
  (sIf (fB (fBin notND (fPk 1) (fC .non))) sNo sNil))
def m_check_run_there : FS := mkFn 2 1 F_check_run_there
theorem ok_check_run_there {P : Program} {w : World} {K : PySem.W.Frag} {mg : Str → Option Value} {base : Heap} (D : Df K mg "check_run_there" sd_check_run_there) (c_first_stretch_of : Cal P w K mg base "first_stretch_of" sd_first_stretch_of 2 ps_first_stretch_of m_first_stretch_of) : Cal P w K mg base "check_run_there" sd_check_run_there 3 ps_check_run_there m_check_run_there := cal_mk (N := N_check_run_there) D sc_check_run_there bp_check_run_there (by decide) (fun f cdv A outer s H E hgd hr => by
  have hu := hr.units
  exact (ss_cons (s1_asg sc_check_run_there.nd (by rfl) (.inl (by rfl)) (cl c_first_stretch_of hr (by decide) hgd (by rfl) (szs_cons (nZ 0 (by rfl) (.inl (by rfl))) szs_nil)))
  (ss_one (s1_if (st_cmp op_notN ok_notN (nP 1 (by rfl) (.inl (by rfl))) sz_non.p (nomark _)) (ss_one s1_no) ss_nil))))
/-! ### greatest_row -/
abbrev sd_greatest_row : Stmt := topS 24
abbrev N_greatest_row : List Str := ["feed", "had", "days", "found", "at", "brought", "low", "high"]
abbrev ps_greatest_row : List Str := ["feed"]
theorem sc_greatest_row : FnScope N_greatest_row ps_greatest_row (defScope sd_greatest_row) := ⟨rfl, rfl, rfl, by decide +kernel, rfl, by decide +kernel, by decide +kernel⟩
theorem bp_greatest_row : BindP "greatest_row" sd_greatest_row ps_greatest_row := fun _ _ _ _ _ _ us hl => match us, hl with | [_], _ => rfl
def F_greatest_row : SS := (sSeq (sPar 1 2 (aCons (fCall m_had_of (aCons (fVar 0) aNil)) (aCons (fBin ixD (fPk 0) (fC (.int 3))) aNil)))
  (sSeq (sAsg 3 (fLst (aCons (fC (.int 0)) aNil)))
  (sSeq (sFor (wEnum (aCons (fVar 2) aNil)) (gTupS (gConsS (gN 4) (gConsS (gTupS (gConsS (gN 5) (gConsS (gN 6) (gConsS (gN 7) gNilS))) 3) gNilS)) 2) (sApp 3 (fCl min2D (aCons (fBin addD (fBin ixD (fPk 3) (fUn negD (fC (.int 1)))) (fPk 7)) (aCons (fBin ixD (fPk 1) (fBin addD (fPk 4) (fC (.int 1)))) aNil)))))
  (sSeq (sFor (wRng3 (aCons (fBin subD (fCl lenD (aCons (fPk 2) aNil)) (fC (.int 1))) (aCons (fUn negD (fC (.int 1))) (aCons (fUn negD (fC (.int 1))) aNil)))) (gN 4) (sSetO 3 (fPk 4) (fZ (fCl min2D (aCons (fBin ixD (fPk 3) (fPk 4)) (aCons (fBin subD (fBin ixD (fPk 3) (fBin addD (fPk 4) (fC (.int 1)))) (fBin ixD (fBin ixD (fPk 2) (fPk 4)) (fC (.int 1)))) aNil))))))
  (sRet (fMv 3))))))
def m_greatest_row : FS := mkFn 8 1 F_greatest_row
theorem ok_greatest_row {P : Program} {w : World} {K : PySem.W.Frag} {mg : Str → Option Value} {base : Heap} (D : Df K mg "greatest_row" sd_greatest_row) (c_had_of : Cal P w K mg base "had_of" sd_had_of 1 ps_had_of m_had_of) (z_enumerate : mg "enumerate" = none) (z_min : mg "min" = none) (z_len : mg "len" = none) (z_range : mg "range" = none) : Cal P w K mg base "greatest_row" sd_greatest_row 2 ps_greatest_row m_greatest_row := cal_mk (N := N_greatest_row) D sc_greatest_row bp_greatest_row (by decide) (fun f cdv A outer s H E hgd hr => by
  have hu := hr.units
  exact (ss_cons (s1_par (by rfl) sc_greatest_row.nd (by rfl) (by rfl) (by decide) (by rfl) (by rfl) (ses_cons (cl c_had_of hr (by decide) hgd (by rfl) (szs_cons (nZ 0 (by rfl) (.inl (by rfl))) szs_nil)) (ses_cons (se_ix or_ix ok_ix (nP 0 (by rfl) (.inl (by rfl))) sz_int.p (fun _ _ => rfl)) ses_nil)) (by rfl))
  (ss_cons (s1_asg sc_greatest_row.nd (by rfl) (.inl (by rfl)) (se_lst (ses_cons sz_int.se ses_nil)))
  (ss_cons (s1_for PassesOwn.never (by rfl) (si_enum (by rfl) z_enumerate (szs_cons (nZ 2 (by rfl) (.inl (by rfl))) szs_nil)) (sg_tup (pg_tup (by rfl) (sgs_cons (sg_name (pg_name (i := 4) sc_greatest_row.nd (by rfl) (.inl (by rfl)))) (sgs_cons (sg_tup (pg_tup (by rfl) (sgs_cons (sg_name (pg_name (i := 5) sc_greatest_row.nd (by rfl) (.inl (by rfl)))) (sgs_cons (sg_name (pg_name (i := 6) sc_greatest_row.nd (by rfl) (.inl (by rfl)))) (sgs_cons (sg_name (pg_name (i := 7) sc_greatest_row.nd (by rfl) (.inl (by rfl)))) sgs_nil (pgs_cons (sg_name (pg_name (i := 7) sc_greatest_row.nd (by rfl) (.inl (by rfl)))) sgs_nil)) (pgs_cons (sg_name (pg_name (i := 6) sc_greatest_row.nd (by rfl) (.inl (by rfl)))) (sgs_cons (sg_name (pg_name (i := 7) sc_greatest_row.nd (by rfl) (.inl (by rfl)))) sgs_nil (pgs_cons (sg_name (pg_name (i := 7) sc_greatest_row.nd (by rfl) (.inl (by rfl)))) sgs_nil)))) (pgs_cons (sg_name (pg_name (i := 5) sc_greatest_row.nd (by rfl) (.inl (by rfl)))) (sgs_cons (sg_name (pg_name (i := 6) sc_greatest_row.nd (by rfl) (.inl (by rfl)))) (sgs_cons (sg_name (pg_name (i := 7) sc_greatest_row.nd (by rfl) (.inl (by rfl)))) sgs_nil (pgs_cons (sg_name (pg_name (i := 7) sc_greatest_row.nd (by rfl) (.inl (by rfl)))) sgs_nil)) (pgs_cons (sg_name (pg_name (i := 6) sc_greatest_row.nd (by rfl) (.inl (by rfl)))) (sgs_cons (sg_name (pg_name (i := 7) sc_greatest_row.nd (by rfl) (.inl (by rfl)))) sgs_nil (pgs_cons (sg_name (pg_name (i := 7) sc_greatest_row.nd (by rfl) (.inl (by rfl)))) sgs_nil)))))))) sgs_nil (pgs_cons (sg_tup (pg_tup (by rfl) (sgs_cons (sg_name (pg_name (i := 5) sc_greatest_row.nd (by rfl) (.inl (by rfl)))) (sgs_cons (sg_name (pg_name (i := 6) sc_greatest_row.nd (by rfl) (.inl (by rfl)))) (sgs_cons (sg_name (pg_name (i := 7) sc_greatest_row.nd (by rfl) (.inl (by rfl)))) sgs_nil (pgs_cons (sg_name (pg_name (i := 7) sc_greatest_row.nd (by rfl) (.inl (by rfl)))) sgs_nil)) (pgs_cons (sg_name (pg_name (i := 6) sc_greatest_row.nd (by rfl) (.inl (by rfl)))) (sgs_cons (sg_name (pg_name (i := 7) sc_greatest_row.nd (by rfl) (.inl (by rfl)))) sgs_nil (pgs_cons (sg_name (pg_name (i := 7) sc_greatest_row.nd (by rfl) (.inl (by rfl)))) sgs_nil)))) (pgs_cons (sg_name (pg_name (i := 5) sc_greatest_row.nd (by rfl) (.inl (by rfl)))) (sgs_cons (sg_name (pg_name (i := 6) sc_greatest_row.nd (by rfl) (.inl (by rfl)))) (sgs_cons (sg_name (pg_name (i := 7) sc_greatest_row.nd (by rfl) (.inl (by rfl)))) sgs_nil (pgs_cons (sg_name (pg_name (i := 7) sc_greatest_row.nd (by rfl) (.inl (by rfl)))) sgs_nil)) (pgs_cons (sg_name (pg_name (i := 6) sc_greatest_row.nd (by rfl) (.inl (by rfl)))) (sgs_cons (sg_name (pg_name (i := 7) sc_greatest_row.nd (by rfl) (.inl (by rfl)))) sgs_nil (pgs_cons (sg_name (pg_name (i := 7) sc_greatest_row.nd (by rfl) (.inl (by rfl)))) sgs_nil)))))))) sgs_nil)) (pgs_cons (sg_name (pg_name (i := 4) sc_greatest_row.nd (by rfl) (.inl (by rfl)))) (sgs_cons (sg_tup (pg_tup (by rfl) (sgs_cons (sg_name (pg_name (i := 5) sc_greatest_row.nd (by rfl) (.inl (by rfl)))) (sgs_cons (sg_name (pg_name (i := 6) sc_greatest_row.nd (by rfl) (.inl (by rfl)))) (sgs_cons (sg_name (pg_name (i := 7) sc_greatest_row.nd (by rfl) (.inl (by rfl)))) sgs_nil (pgs_cons (sg_name (pg_name (i := 7) sc_greatest_row.nd (by rfl) (.inl (by rfl)))) sgs_nil)) (pgs_cons (sg_name (pg_name (i := 6) sc_greatest_row.nd (by rfl) (.inl (by rfl)))) (sgs_cons (sg_name (pg_name (i := 7) sc_greatest_row.nd (by rfl) (.inl (by rfl)))) sgs_nil (pgs_cons (sg_name (pg_name (i := 7) sc_greatest_row.nd (by rfl) (.inl (by rfl)))) sgs_nil)))) (pgs_cons (sg_name (pg_name (i := 5) sc_greatest_row.nd (by rfl) (.inl (by rfl)))) (sgs_cons (sg_name (pg_name (i := 6) sc_greatest_row.nd (by rfl) (.inl (by rfl)))) (sgs_cons (sg_name (pg_name (i := 7) sc_greatest_row.nd (by rfl) (.inl (by rfl)))) sgs_nil (pgs_cons (sg_name (pg_name (i := 7) sc_greatest_row.nd (by rfl) (.inl (by rfl)))) sgs_nil)) (pgs_cons (sg_name (pg_name (i := 6) sc_greatest_row.nd (by rfl) (.inl (by rfl)))) (sgs_cons (sg_name (pg_name (i := 7) sc_greatest_row.nd (by rfl) (.inl (by rfl)))) sgs_nil (pgs_cons (sg_name (pg_name (i := 7) sc_greatest_row.nd (by rfl) (.inl (by rfl)))) sgs_nil)))))))) sgs_nil (pgs_cons (sg_tup (pg_tup (by rfl) (sgs_cons (sg_name (pg_name (i := 5) sc_greatest_row.nd (by rfl) (.inl (by rfl)))) (sgs_cons (sg_name (pg_name (i := 6) sc_greatest_row.nd (by rfl) (.inl (by rfl)))) (sgs_cons (sg_name (pg_name (i := 7) sc_greatest_row.nd (by rfl) (.inl (by rfl)))) sgs_nil (pgs_cons (sg_name (pg_name (i := 7) sc_greatest_row.nd (by rfl) (.inl (by rfl)))) sgs_nil)) (pgs_cons (sg_name (pg_name (i := 6) sc_greatest_row.nd (by rfl) (.inl (by rfl)))) (sgs_cons (sg_name (pg_name (i := 7) sc_greatest_row.nd (by rfl) (.inl (by rfl)))) sgs_nil (pgs_cons (sg_name (pg_name (i := 7) sc_greatest_row.nd (by rfl) (.inl (by rfl)))) sgs_nil)))) (pgs_cons (sg_name (pg_name (i := 5) sc_greatest_row.nd (by rfl) (.inl (by rfl)))) (sgs_cons (sg_name (pg_name (i := 6) sc_greatest_row.nd (by rfl) (.inl (by rfl)))) (sgs_cons (sg_name (pg_name (i := 7) sc_greatest_row.nd (by rfl) (.inl (by rfl)))) sgs_nil (pgs_cons (sg_name (pg_name (i := 7) sc_greatest_row.nd (by rfl) (.inl (by rfl)))) sgs_nil)) (pgs_cons (sg_name (pg_name (i := 6) sc_greatest_row.nd (by rfl) (.inl (by rfl)))) (sgs_cons (sg_name (pg_name (i := 7) sc_greatest_row.nd (by rfl) (.inl (by rfl)))) sgs_nil (pgs_cons (sg_name (pg_name (i := 7) sc_greatest_row.nd (by rfl) (.inl (by rfl)))) sgs_nil)))))))) sgs_nil)))))) (ss_one (s1_app (pe_var (i := 3) (by rfl) (.inl (by rfl))) (b_min2 (by rfl) (by rfl) z_min (se_bin or_add ok_add (se_ix or_ix ok_ix (nP 3 (by rfl) (.inl (by rfl))) (se_un un_neg ok_neg sz_int.p).p (fun _ _ => rfl)).p (nP 7 (by rfl) (.inl (by rfl)))).p (se_ix or_ix ok_ix (nP 1 (by rfl) (.inl (by rfl))) (se_bin or_add ok_add (nP 4 (by rfl) (.inl (by rfl))) sz_int.p).p (fun _ _ => rfl)).p))))
  (ss_cons (s1_for PassesOwn.never (by rfl) (si_rng3 (by rfl) z_range (sps_cons (se_bin op_sub ok_sub (b_len (by rfl) z_len (nP 2 (by rfl) (.inl (by rfl)))).p sz_int.p).p (sps_cons (se_un un_neg ok_neg sz_int.p).p (sps_cons (se_un un_neg ok_neg sz_int.p).p sps_nil)))) (sg_name (pg_name (i := 4) sc_greatest_row.nd (by rfl) (.inl (by rfl)))) (ss_one (s1_seto (b_min2 (by rfl) (by rfl) z_min (se_ix or_ix ok_ix (nP 3 (by rfl) (.inl (by rfl))) (nP 4 (by rfl) (.inl (by rfl))) (fun _ _ => rfl)).p (se_bin op_sub ok_sub (se_ix or_ix ok_ix (nP 3 (by rfl) (.inl (by rfl))) (se_bin or_add ok_add (nP 4 (by rfl) (.inl (by rfl))) sz_int.p).p (fun _ _ => rfl)).p (se_ix or_ix ok_ix (se_ix or_ix ok_ix (nP 2 (by rfl) (.inl (by rfl))) (nP 4 (by rfl) (.inl (by rfl))) (fun _ _ => rfl)).p sz_int.p (fun _ _ => rfl)).p).p).z (pe_var (i := 3) (by rfl) (.inl (by rfl))) (nP 4 (by rfl) (.inl (by rfl))) (fun _ => rfl))))
  (ss_one (s1_ret (nM 3 (by rfl) (.inl (by rfl))))))))))
/-! ### greatest_run -/
abbrev sd_greatest_run : Stmt := topS 28
abbrev N_greatest_run : List Str := ["feed"]
abbrev ps_greatest_run : List Str := ["feed"]
theorem sc_greatest_run : FnScope N_greatest_run ps_greatest_run (defScope sd_greatest_run) := ⟨rfl, rfl, rfl, by decide +kernel, rfl, by decide +kernel, by decide +kernel⟩
theorem bp_greatest_run : BindP "greatest_run" sd_greatest_run ps_greatest_run := fun _ _ _ _ _ _ us hl => match us, hl with | [_], _ => rfl
theorem kb_greatest_run_0_feed : BindK "greatest_run" sd_greatest_run ps_greatest_run ["feed"] 0 [0] := fun _ _ _ _ _ _ us ws h1 h2 => match us, ws, h1, h2 with | [], [_], _, _ => rfl
def F_greatest_run : SS := (sSeq (sDrop (fCall m_check_feed (aCons (fVar 0) aNil)))
  (sSeq (sDrop (fCall m_check_run_there (aCons (fVar 0) aNil)))
  (sRet (fCall m_steps_of (aCons (fZ (fCall m_greatest_row (aCons (fVar 0) aNil))) aNil)))))
def m_greatest_run : FS := mkFn 1 1 F_greatest_run
theorem ok_greatest_run {P : Program} {w : World} {K : PySem.W.Frag} {mg : Str → Option Value} {base : Heap} (D : Df K mg "greatest_run" sd_greatest_run) (c_check_feed : Cal P w K mg base "check_feed" sd_check_feed 6 ps_check_feed m_check_feed) (c_check_run_there : Cal P w K mg base "check_run_there" sd_check_run_there 3 ps_check_run_there m_check_run_there) (c_steps_of : Cal P w K mg base "steps_of" sd_steps_of 1 ps_steps_of m_steps_of) (c_greatest_row : Cal P w K mg base "greatest_row" sd_greatest_row 2 ps_greatest_row m_greatest_row) : Cal P w K mg base "greatest_run" sd_greatest_run 7 ps_greatest_run m_greatest_run := cal_mk (N := N_greatest_run) D sc_greatest_run bp_greatest_run (by decide) (fun f cdv A outer s H E hgd hr => by
  have hu := hr.units
  exact (ss_cons (s1_expr (cl c_check_feed hr (by decide) hgd (by rfl) (szs_cons (nZ 0 (by rfl) (.inl (by rfl))) szs_nil)).p)
  (ss_cons (s1_expr (cl c_check_run_there hr (by decide) hgd (by rfl) (szs_cons (nZ 0 (by rfl) (.inl (by rfl))) szs_nil)).p)
  (ss_one (s1_ret (cl c_steps_of hr (by decide) hgd (by rfl) (szs_cons (cl c_greatest_row hr (by decide) hgd (by rfl) (szs_cons (nZ 0 (by rfl) (.inl (by rfl))) szs_nil)).z szs_nil)))))))
/-! ### takes_of -/
abbrev sd_takes_of : Stmt := topS 26
abbrev N_takes_of : List Str := ["feed", "day", "brought", "low", "high", "least", "most"]
abbrev ps_takes_of : List Str := ["feed", "day"]
theorem sc_takes_of : FnScope N_takes_of ps_takes_of (defScope sd_takes_of) := ⟨rfl, rfl, rfl, by decide +kernel, rfl, by decide +kernel, by decide +kernel⟩
theorem bp_takes_of : BindP "takes_of" sd_takes_of ps_takes_of := fun _ _ _ _ _ _ us hl => match us, hl with | [_, _], _ => rfl
def F_takes_of : SS := (sSeq (sUnp2 [2, 3, 4] (fBin ixD (fBin ixD (fPk 0) (fC (.int 3))) (fPk 1)))
  (sSeq (sPar 5 6 (aCons (fCall m_least_row (aCons (fVar 0) aNil)) (aCons (fCall m_greatest_row (aCons (fVar 0) aNil)) aNil)))
  (sRet (fTup (aCons (fCl max2D (aCons (fPk 3) (aCons (fBin subD (fBin ixD (fPk 5) (fBin addD (fPk 1) (fC (.int 1)))) (fBin ixD (fPk 6) (fPk 1))) aNil))) (aCons (fCl min2D (aCons (fPk 4) (aCons (fBin subD (fBin ixD (fPk 6) (fBin addD (fPk 1) (fC (.int 1)))) (fBin ixD (fPk 5) (fPk 1))) aNil))) aNil))))))
def m_takes_of : FS := mkFn 7 2 F_takes_of
theorem ok_takes_of {P : Program} {w : World} {K : PySem.W.Frag} {mg : Str → Option Value} {base : Heap} (D : Df K mg "takes_of" sd_takes_of) (c_greatest_row : Cal P w K mg base "greatest_row" sd_greatest_row 2 ps_greatest_row m_greatest_row) (c_least_row : Cal P w K mg base "least_row" sd_least_row 2 ps_least_row m_least_row) (z_min : mg "min" = none) (z_max : mg "max" = none) : Cal P w K mg base "takes_of" sd_takes_of 3 ps_takes_of m_takes_of := cal_mk (N := N_takes_of) D sc_takes_of bp_takes_of (by decide) (fun f cdv A outer s H E hgd hr => by
  have hu := hr.units
  exact (ss_cons (s1_unp2 (se_ix or_ix ok_ix (se_ix or_ix ok_ix (nP 0 (by rfl) (.inl (by rfl))) sz_int.p (fun _ _ => rfl)).p (nP 1 (by rfl) (.inl (by rfl))) (fun _ _ => rfl)) (pg_tup (by rfl) (pgs_cons (pg_name (i := 2) sc_takes_of.nd (by rfl) (.inl (by rfl))) (pgs_cons (pg_name (i := 3) sc_takes_of.nd (by rfl) (.inl (by rfl))) (pgs_cons (pg_name (i := 4) sc_takes_of.nd (by rfl) (.inl (by rfl))) pgs_nil)))) (pg_lst (by rfl) (pgs_cons (pg_name (i := 2) sc_takes_of.nd (by rfl) (.inl (by rfl))) (pgs_cons (pg_name (i := 3) sc_takes_of.nd (by rfl) (.inl (by rfl))) (pgs_cons (pg_name (i := 4) sc_takes_of.nd (by rfl) (.inl (by rfl))) pgs_nil)))))
  (ss_cons (s1_par (by rfl) sc_takes_of.nd (by rfl) (by rfl) (by decide) (by rfl) (by rfl) (ses_cons (cl c_least_row hr (by decide) hgd (by rfl) (szs_cons (nZ 0 (by rfl) (.inl (by rfl))) szs_nil)) (ses_cons (cl c_greatest_row hr (by decide) hgd (by rfl) (szs_cons (nZ 0 (by rfl) (.inl (by rfl))) szs_nil)) ses_nil)) (by rfl))
  (ss_one (s1_ret (se_tup (ses_cons (b_max2 (by rfl) (by rfl) z_max (nP 3 (by rfl) (.inl (by rfl))) (se_bin op_sub ok_sub (se_ix or_ix ok_ix (nP 5 (by rfl) (.inl (by rfl))) (se_bin or_add ok_add (nP 1 (by rfl) (.inl (by rfl))) sz_int.p).p (fun _ _ => rfl)).p (se_ix or_ix ok_ix (nP 6 (by rfl) (.inl (by rfl))) (nP 1 (by rfl) (.inl (by rfl))) (fun _ _ => rfl)).p).p) (ses_cons (b_min2 (by rfl) (by rfl) z_min (nP 4 (by rfl) (.inl (by rfl))) (se_bin op_sub ok_sub (se_ix or_ix ok_ix (nP 6 (by rfl) (.inl (by rfl))) (se_bin or_add ok_add (nP 1 (by rfl) (.inl (by rfl))) sz_int.p).p (fun _ _ => rfl)).p (se_ix or_ix ok_ix (nP 5 (by rfl) (.inl (by rfl))) (nP 1 (by rfl) (.inl (by rfl))) (fun _ _ => rfl)).p).p) ses_nil))))))))
/-! ### forced -/
abbrev sd_forced : Stmt := topS 32
abbrev N_forced : List Str := ["feed", "some", "day", "least", "most"]
abbrev ps_forced : List Str := ["feed"]
theorem sc_forced : FnScope N_forced ps_forced (defScope sd_forced) := ⟨rfl, rfl, rfl, by decide +kernel, rfl, by decide +kernel, by decide +kernel⟩
theorem bp_forced : BindP "forced" sd_forced ps_forced := fun _ _ _ _ _ _ us hl => match us, hl with | [_], _ => rfl
theorem kb_forced_0_feed : BindK "forced" sd_forced ps_forced ["feed"] 0 [0] := fun _ _ _ _ _ _ us ws h1 h2 => match us, ws, h1, h2 with | [], [_], _, _ => rfl
def F_forced : SS := (sSeq (sDrop (fCall m_check_feed (aCons (fVar 0) aNil)))
  (sSeq (sDrop (fCall m_check_run_there (aCons (fVar 0) aNil)))
  (sSeq (sAsg 1 (fComp (wRng1 (aCons (fCl lenD (aCons (fBin ixD (fPk 0) (fC (.int 3))) aNil)) aNil)) (gN 2) bYes (fCall m_takes_of (aCons (fVar 0) (aCons (fVar 2) aNil))) [2]))
  (sRet (fCl tupD (aCons (fComp (wEnum (aCons (fVar 1) aNil)) (gTupS (gConsS (gN 2) (gConsS (gTupS (gConsS (gN 3) (gConsS (gN 4) gNilS)) 2) gNilS)) 2) (fB (fBin eqD (fPk 3) (fPk 4))) (fVar 2) [2, 3, 4]) aNil))))))
def m_forced : FS := mkFn 5 1 F_forced
theorem ok_forced {P : Program} {w : World} {K : PySem.W.Frag} {mg : Str → Option Value} {base : Heap} (D : Df K mg "forced" sd_forced) (c_check_feed : Cal P w K mg base "check_feed" sd_check_feed 6 ps_check_feed m_check_feed) (c_check_run_there : Cal P w K mg base "check_run_there" sd_check_run_there 3 ps_check_run_there m_check_run_there) (c_takes_of : Cal P w K mg base "takes_of" sd_takes_of 3 ps_takes_of m_takes_of) (z_len : mg "len" = none) (z_range : mg "range" = none) (z_enumerate : mg "enumerate" = none) (z_tuple : mg "tuple" = none) : Cal P w K mg base "forced" sd_forced 7 ps_forced m_forced := cal_mk (N := N_forced) D sc_forced bp_forced (by decide) (fun f cdv A outer s H E hgd hr => by
  have hu := hr.units
  exact (ss_cons (s1_expr (cl c_check_feed hr (by decide) hgd (by rfl) (szs_cons (nZ 0 (by rfl) (.inr (.inl (by rfl)))) szs_nil)).p)
  (ss_cons (s1_expr (cl c_check_run_there hr (by decide) hgd (by rfl) (szs_cons (nZ 0 (by rfl) (.inr (.inl (by rfl)))) szs_nil)).p)
  (ss_cons (s1_asgLc (own := [("day", 2)]) (by rfl) sc_forced.nd (by rfl) (by rfl) (sw_true (by rfl) (by rfl) (by rfl) (by decide +kernel)) (si_rng1 (by rfl) z_range (sps_cons (b_len (by rfl) z_len (se_ix or_ix ok_ix (nP 0 (by rfl) (.inr (.inl (by rfl)))) sz_int.p (fun _ _ => rfl)).p).p sps_nil)) (by rfl) (by rfl) (by decide) (fun _ _ _ _ _ => (sg_name (pg_name (i := 2) sc_forced.nd (by rfl) (.inl (by rfl))))) (fun _ _ _ _ _ => sts_nil) (fun _ _ _ _ _ => (cl c_takes_of hr (by decide) hgd (by rfl) (szs_cons (nZ 0 (by rfl) (.inr (.inl (by rfl)))) (szs_cons (nZ 2 (by rfl) (.inl (by rfl))) szs_nil)))))
  (ss_one (s1_ret (b_tuple (by rfl) z_tuple (se_lc (own := [("day", 2), ("least", 3), ("most", 4)]) (by rfl) sc_forced.nd (si_enum (by rfl) z_enumerate (szs_cons (nZ 1 (by rfl) (.inl (by rfl))) szs_nil)) (by rfl) (by rfl) (by decide) (fun _ _ _ _ _ => (sg_tup (pg_tup (by rfl) (sgs_cons (sg_name (pg_name (i := 2) sc_forced.nd (by rfl) (.inl (by rfl)))) (sgs_cons (sg_tup (pg_tup (by rfl) (sgs_cons (sg_name (pg_name (i := 3) sc_forced.nd (by rfl) (.inl (by rfl)))) (sgs_cons (sg_name (pg_name (i := 4) sc_forced.nd (by rfl) (.inl (by rfl)))) sgs_nil (pgs_cons (sg_name (pg_name (i := 4) sc_forced.nd (by rfl) (.inl (by rfl)))) sgs_nil)) (pgs_cons (sg_name (pg_name (i := 3) sc_forced.nd (by rfl) (.inl (by rfl)))) (sgs_cons (sg_name (pg_name (i := 4) sc_forced.nd (by rfl) (.inl (by rfl)))) sgs_nil (pgs_cons (sg_name (pg_name (i := 4) sc_forced.nd (by rfl) (.inl (by rfl)))) sgs_nil)))))) sgs_nil (pgs_cons (sg_tup (pg_tup (by rfl) (sgs_cons (sg_name (pg_name (i := 3) sc_forced.nd (by rfl) (.inl (by rfl)))) (sgs_cons (sg_name (pg_name (i := 4) sc_forced.nd (by rfl) (.inl (by rfl)))) sgs_nil (pgs_cons (sg_name (pg_name (i := 4) sc_forced.nd (by rfl) (.inl (by rfl)))) sgs_nil)) (pgs_cons (sg_name (pg_name (i := 3) sc_forced.nd (by rfl) (.inl (by rfl)))) (sgs_cons (sg_name (pg_name (i := 4) sc_forced.nd (by rfl) (.inl (by rfl)))) sgs_nil (pgs_cons (sg_name (pg_name (i := 4) sc_forced.nd (by rfl) (.inl (by rfl)))) sgs_nil)))))) sgs_nil)) (pgs_cons (sg_name (pg_name (i := 2) sc_forced.nd (by rfl) (.inl (by rfl)))) (sgs_cons (sg_tup (pg_tup (by rfl) (sgs_cons (sg_name (pg_name (i := 3) sc_forced.nd (by rfl) (.inl (by rfl)))) (sgs_cons (sg_name (pg_name (i := 4) sc_forced.nd (by rfl) (.inl (by rfl)))) sgs_nil (pgs_cons (sg_name (pg_name (i := 4) sc_forced.nd (by rfl) (.inl (by rfl)))) sgs_nil)) (pgs_cons (sg_name (pg_name (i := 3) sc_forced.nd (by rfl) (.inl (by rfl)))) (sgs_cons (sg_name (pg_name (i := 4) sc_forced.nd (by rfl) (.inl (by rfl)))) sgs_nil (pgs_cons (sg_name (pg_name (i := 4) sc_forced.nd (by rfl) (.inl (by rfl)))) sgs_nil)))))) sgs_nil (pgs_cons (sg_tup (pg_tup (by rfl) (sgs_cons (sg_name (pg_name (i := 3) sc_forced.nd (by rfl) (.inl (by rfl)))) (sgs_cons (sg_name (pg_name (i := 4) sc_forced.nd (by rfl) (.inl (by rfl)))) sgs_nil (pgs_cons (sg_name (pg_name (i := 4) sc_forced.nd (by rfl) (.inl (by rfl)))) sgs_nil)) (pgs_cons (sg_name (pg_name (i := 3) sc_forced.nd (by rfl) (.inl (by rfl)))) (sgs_cons (sg_name (pg_name (i := 4) sc_forced.nd (by rfl) (.inl (by rfl)))) sgs_nil (pgs_cons (sg_name (pg_name (i := 4) sc_forced.nd (by rfl) (.inl (by rfl)))) sgs_nil)))))) sgs_nil))))))) (fun _ _ _ _ _ => (sts_one (st_cmp (or_eq hu) ok_eq (nP 3 (by rfl) (.inl (by rfl))) (nP 4 (by rfl) (.inl (by rfl))) (nomark _)))) (fun _ _ _ _ _ => (nZ 2 (by rfl) (.inl (by rfl))).se)).p)))))))
/-! ### totals -/
abbrev sd_totals : Stmt := topS 29
abbrev N_totals : List Str := ["feed"]
abbrev ps_totals : List Str := ["feed"]
theorem sc_totals : FnScope N_totals ps_totals (defScope sd_totals) := ⟨rfl, rfl, rfl, by decide +kernel, rfl, by decide +kernel, by decide +kernel⟩
theorem bp_totals : BindP "totals" sd_totals ps_totals := fun _ _ _ _ _ _ us hl => match us, hl with | [_], _ => rfl
theorem kb_totals_0_feed : BindK "totals" sd_totals ps_totals ["feed"] 0 [0] := fun _ _ _ _ _ _ us ws h1 h2 => match us, ws, h1, h2 with | [], [_], _, _ => rfl
def F_totals : SS := (sSeq (sDrop (fCall m_check_feed (aCons (fVar 0) aNil)))
  (sSeq (sDrop (fCall m_check_run_there (aCons (fVar 0) aNil)))
  (sRet (fTup (aCons (fBin ixD (fCall m_least_row (aCons (fVar 0) aNil)) (fUn negD (fC (.int 1)))) (aCons (fBin ixD (fCall m_greatest_row (aCons (fVar 0) aNil)) (fUn negD (fC (.int 1)))) aNil))))))
def m_totals : FS := mkFn 1 1 F_totals
theorem ok_totals {P : Program} {w : World} {K : PySem.W.Frag} {mg : Str → Option Value} {base : Heap} (D : Df K mg "totals" sd_totals) (c_check_feed : Cal P w K mg base "check_feed" sd_check_feed 6 ps_check_feed m_check_feed) (c_check_run_there : Cal P w K mg base "check_run_there" sd_check_run_there 3 ps_check_run_there m_check_run_there) (c_greatest_row : Cal P w K mg base "greatest_row" sd_greatest_row 2 ps_greatest_row m_greatest_row) (c_least_row : Cal P w K mg base "least_row" sd_least_row 2 ps_least_row m_least_row) : Cal P w K mg base "totals" sd_totals 7 ps_totals m_totals := cal_mk (N := N_totals) D sc_totals bp_totals (by decide) (fun f cdv A outer s H E hgd hr => by
  have hu := hr.units
  exact (ss_cons (s1_expr (cl c_check_feed hr (by decide) hgd (by rfl) (szs_cons (nZ 0 (by rfl) (.inl (by rfl))) szs_nil)).p)
  (ss_cons (s1_expr (cl c_check_run_there hr (by decide) hgd (by rfl) (szs_cons (nZ 0 (by rfl) (.inl (by rfl))) szs_nil)).p)
  (ss_one (s1_ret (se_tup (ses_cons (se_ix or_ix ok_ix (cl c_least_row hr (by decide) hgd (by rfl) (szs_cons (nZ 0 (by rfl) (.inl (by rfl))) szs_nil)).p (se_un un_neg ok_neg sz_int.p).p (fun _ _ => rfl)) (ses_cons (se_ix or_ix ok_ix (cl c_greatest_row hr (by decide) hgd (by rfl) (szs_cons (nZ 0 (by rfl) (.inl (by rfl))) szs_nil)).p (se_un un_neg ok_neg sz_int.p).p (fun _ _ => rfl)) ses_nil))))))))
/-! ### _law_stores -/
abbrev sd__law_stores : Stmt := topS 40
abbrev N__law_stores : List Str := ["feed", "run", "found", "store", "brought", "low", "high", "take"]
abbrev ps__law_stores : List Str := ["feed", "run"]
theorem sc__law_stores : FnScope N__law_stores ps__law_stores (defScope sd__law_stores) := ⟨rfl, rfl, rfl, by decide +kernel, rfl, by decide +kernel, by decide +kernel⟩
theorem bp__law_stores : BindP "_law_stores" sd__law_stores ps__law_stores := fun _ _ _ _ _ _ us hl => match us, hl with | [_, _], _ => rfl
def F__law_stores : SS := (sSeq (sPar 2 3 (aCons (fLst aNil) (aCons (fBin ixD (fPk 0) (fC (.int 2))) aNil)))
  (sSeq (sFor (wZipX (aCons (fZ (fBin ixD (fPk 0) (fC (.int 3)))) (aCons (fVar 1) aNil))) (gTupS (gConsS (gTupS (gConsS (gN 4) (gConsS (gN 5) (gConsS (gN 6) gNilS))) 3) (gConsS (gN 7) gNilS)) 2) (sSeq (sAsg 3 (fBin subD (fBin addD (fPk 3) (fPk 4)) (fPk 7)))
  (sApp 2 (fVar 3))))
  (sRet (fMv 2))))
def m__law_stores : FS := mkFn 8 2 F__law_stores
theorem ok__law_stores {P : Program} {w : World} {K : PySem.W.Frag} {mg : Str → Option Value} {base : Heap} (D : Df K mg "_law_stores" sd__law_stores) (z_zip : mg "zip" = none) : Cal P w K mg base "_law_stores" sd__law_stores 1 ps__law_stores m__law_stores := cal_mk (N := N__law_stores) D sc__law_stores bp__law_stores (by decide) (fun f cdv A outer s H E hgd hr => by
  have hu := hr.units
  exact (ss_cons (s1_par (by rfl) sc__law_stores.nd (by rfl) (by rfl) (by decide) (by rfl) (by rfl) (ses_cons (se_lst ses_nil) (ses_cons (se_ix or_ix ok_ix (nP 0 (by rfl) (.inl (by rfl))) sz_int.p (fun _ _ => rfl)) ses_nil)) (by rfl))
  (ss_cons (s1_for PassesOwn.never (by rfl) (si_zipX (by rfl) z_zip (szs_cons (se_ix or_ix ok_ix (nP 0 (by rfl) (.inl (by rfl))) sz_int.p (fun _ _ => rfl)).z (szs_cons (nZ 1 (by rfl) (.inl (by rfl))) szs_nil))) (sg_tup (pg_tup (by rfl) (sgs_cons (sg_tup (pg_tup (by rfl) (sgs_cons (sg_name (pg_name (i := 4) sc__law_stores.nd (by rfl) (.inl (by rfl)))) (sgs_cons (sg_name (pg_name (i := 5) sc__law_stores.nd (by rfl) (.inl (by rfl)))) (sgs_cons (sg_name (pg_name (i := 6) sc__law_stores.nd (by rfl) (.inl (by rfl)))) sgs_nil (pgs_cons (sg_name (pg_name (i := 6) sc__law_stores.nd (by rfl) (.inl (by rfl)))) sgs_nil)) (pgs_cons (sg_name (pg_name (i := 5) sc__law_stores.nd (by rfl) (.inl (by rfl)))) (sgs_cons (sg_name (pg_name (i := 6) sc__law_stores.nd (by rfl) (.inl (by rfl)))) sgs_nil (pgs_cons (sg_name (pg_name (i := 6) sc__law_stores.nd (by rfl) (.inl (by rfl)))) sgs_nil)))) (pgs_cons (sg_name (pg_name (i := 4) sc__law_stores.nd (by rfl) (.inl (by rfl)))) (sgs_cons (sg_name (pg_name (i := 5) sc__law_stores.nd (by rfl) (.inl (by rfl)))) (sgs_cons (sg_name (pg_name (i := 6) sc__law_stores.nd (by rfl) (.inl (by rfl)))) sgs_nil (pgs_cons (sg_name (pg_name (i := 6) sc__law_stores.nd (by rfl) (.inl (by rfl)))) sgs_nil)) (pgs_cons (sg_name (pg_name (i := 5) sc__law_stores.nd (by rfl) (.inl (by rfl)))) (sgs_cons (sg_name (pg_name (i := 6) sc__law_stores.nd (by rfl) (.inl (by rfl)))) sgs_nil (pgs_cons (sg_name (pg_name (i := 6) sc__law_stores.nd (by rfl) (.inl (by rfl)))) sgs_nil)))))))) (sgs_cons (sg_name (pg_name (i := 7) sc__law_stores.nd (by rfl) (.inl (by rfl)))) sgs_nil (pgs_cons (sg_name (pg_name (i := 7) sc__law_stores.nd (by rfl) (.inl (by rfl)))) sgs_nil)) (pgs_cons (sg_tup (pg_tup (by rfl) (sgs_cons (sg_name (pg_name (i := 4) sc__law_stores.nd (by rfl) (.inl (by rfl)))) (sgs_cons (sg_name (pg_name (i := 5) sc__law_stores.nd (by rfl) (.inl (by rfl)))) (sgs_cons (sg_name (pg_name (i := 6) sc__law_stores.nd (by rfl) (.inl (by rfl)))) sgs_nil (pgs_cons (sg_name (pg_name (i := 6) sc__law_stores.nd (by rfl) (.inl (by rfl)))) sgs_nil)) (pgs_cons (sg_name (pg_name (i := 5) sc__law_stores.nd (by rfl) (.inl (by rfl)))) (sgs_cons (sg_name (pg_name (i := 6) sc__law_stores.nd (by rfl) (.inl (by rfl)))) sgs_nil (pgs_cons (sg_name (pg_name (i := 6) sc__law_stores.nd (by rfl) (.inl (by rfl)))) sgs_nil)))) (pgs_cons (sg_name (pg_name (i := 4) sc__law_stores.nd (by rfl) (.inl (by rfl)))) (sgs_cons (sg_name (pg_name (i := 5) sc__law_stores.nd (by rfl) (.inl (by rfl)))) (sgs_cons (sg_name (pg_name (i := 6) sc__law_stores.nd (by rfl) (.inl (by rfl)))) sgs_nil (pgs_cons (sg_name (pg_name (i := 6) sc__law_stores.nd (by rfl) (.inl (by rfl)))) sgs_nil)) (pgs_cons (sg_name (pg_name (i := 5) sc__law_stores.nd (by rfl) (.inl (by rfl)))) (sgs_cons (sg_name (pg_name (i := 6) sc__law_stores.nd (by rfl) (.inl (by rfl)))) sgs_nil (pgs_cons (sg_name (pg_name (i := 6) sc__law_stores.nd (by rfl) (.inl (by rfl)))) sgs_nil)))))))) (sgs_cons (sg_name (pg_name (i := 7) sc__law_stores.nd (by rfl) (.inl (by rfl)))) sgs_nil (pgs_cons (sg_name (pg_name (i := 7) sc__law_stores.nd (by rfl) (.inl (by rfl)))) sgs_nil)))))) (ss_cons (s1_asg sc__law_stores.nd (by rfl) (.inl (by rfl)) (se_bin op_sub ok_sub (se_bin or_add ok_add (nP 3 (by rfl) (.inl (by rfl))) (nP 4 (by rfl) (.inl (by rfl)))).p (nP 7 (by rfl) (.inl (by rfl)))))
  (ss_one (s1_app (pe_var (i := 2) (by rfl) (.inl (by rfl))) (nZ 3 (by rfl) (.inl (by rfl))).se))))
  (ss_one (s1_ret (nM 2 (by rfl) (.inl (by rfl))))))))
/-! ### is_position -/
abbrev sd_is_position : Stmt := topS 3
abbrev N_is_position : List Str := ["value", "many"]
abbrev ps_is_position : List Str := ["value", "many"]
theorem sc_is_position : FnScope N_is_position ps_is_position (defScope sd_is_position) := ⟨rfl, rfl, rfl, by decide +kernel, rfl, by decide +kernel, by decide +kernel⟩
theorem bp_is_position : BindP "is_position" sd_is_position ps_is_position := fun _ _ _ _ _ _ us hl => match us, hl with | [_, _], _ => rfl
def F_is_position : SS := (sRet (fAnd (fCall m_is_count (aCons (fVar 0) aNil)) (fBin ltD (fPk 0) (fPk 1))))
def m_is_position : FS := mkFn 2 2 F_is_position
theorem ok_is_position {P : Program} {w : World} {K : PySem.W.Frag} {mg : Str → Option Value} {base : Heap} (D : Df K mg "is_position" sd_is_position) (c_is_count : Cal P w K mg base "is_count" sd_is_count 2 ps_is_count m_is_count) : Cal P w K mg base "is_position" sd_is_position 3 ps_is_position m_is_position := cal_mk (N := N_is_position) D sc_is_position bp_is_position (by decide) (fun f cdv A outer s H E hgd hr => by
  have hu := hr.units
  exact (ss_one (s1_ret (se_and (cl c_is_count hr (by decide) hgd (by rfl) (szs_cons (nZ 0 (by rfl) (.inl (by rfl))) szs_nil)).p (se_one (se_cmp op_lt ok_cmp (nP 0 (by rfl) (.inl (by rfl))) (nP 1 (by rfl) (.inl (by rfl))) (nomark _)))))))
/-! ### check_day -/
abbrev sd_check_day : Stmt := topS 18
abbrev N_check_day : List Str := ["feed", "day"]
abbrev ps_check_day : List Str := ["feed", "day"]
theorem sc_check_day : FnScope N_check_day ps_check_day (defScope sd_check_day) := ⟨rfl, rfl, rfl, by decide +kernel, rfl, by decide +kernel, by decide +kernel⟩
theorem bp_check_day : BindP "check_day" sd_check_day ps_check_day := fun _ _ _ _ _ _ us hl => match us, hl with | [_, _], _ => rfl
def F_check_day : SS := (sSeq (sDrop (fCall m_check_feed (aCons (fVar 0) aNil)))
  (sIf (bNot (fB (fCall m_is_position (aCons (fVar 1) (aCons (fZ (fCl lenD (aCons (fBin ixD (fPk 0) (fC (.int 3))) aNil))) aNil))))) sNo sNil))
def m_check_day : FS := mkFn 2 2 F_check_day
theorem ok_check_day {P : Program} {w : World} {K : PySem.W.Frag} {mg : Str → Option Value} {base : Heap} (D : Df K mg "check_day" sd_check_day) (c_check_feed : Cal P w K mg base "check_feed" sd_check_feed 6 ps_check_feed m_check_feed) (c_is_position : Cal P w K mg base "is_position" sd_is_position 3 ps_is_position m_is_position) (z_len : mg "len" = none) : Cal P w K mg base "check_day" sd_check_day 7 ps_check_day m_check_day := cal_mk (N := N_check_day) D sc_check_day bp_check_day (by decide) (fun f cdv A outer s H E hgd hr => by
  have hu := hr.units
  exact (ss_cons (s1_expr (cl c_check_feed hr (by decide) hgd (by rfl) (szs_cons (nZ 0 (by rfl) (.inl (by rfl))) szs_nil)).p)
  (ss_one (s1_if (st_not (st_val (cl c_is_position hr (by decide) hgd (by rfl) (szs_cons (nZ 1 (by rfl) (.inl (by rfl))) (szs_cons (b_len (by rfl) z_len (se_ix or_ix ok_ix (nP 0 (by rfl) (.inl (by rfl))) sz_int.p (fun _ _ => rfl)).p).z szs_nil))).p)) (ss_one s1_no) ss_nil))))
/-! ### stores_there -/
abbrev sd_stores_there : Stmt := topS 30
abbrev N_stores_there : List Str := ["feed", "day", "had"]
abbrev ps_stores_there : List Str := ["feed", "day"]
theorem sc_stores_there : FnScope N_stores_there ps_stores_there (defScope sd_stores_there) := ⟨rfl, rfl, rfl, by decide +kernel, rfl, by decide +kernel, by decide +kernel⟩
theorem bp_stores_there : BindP "stores_there" sd_stores_there ps_stores_there := fun _ _ _ _ _ _ us hl => match us, hl with | [_, _], _ => rfl
theorem kb_stores_there_0_day_feed : BindK "stores_there" sd_stores_there ps_stores_there ["day", "feed"] 0 [1, 0] := fun _ _ _ _ _ _ us ws h1 h2 => match us, ws, h1, h2 with | [], [_, _], _, _ => rfl
def F_stores_there : SS := (sSeq (sDrop (fCall m_check_day (aCons (fVar 0) (aCons (fVar 1) aNil))))
  (sSeq (sDrop (fCall m_check_run_there (aCons (fVar 0) aNil)))
  (sSeq (sAsg 2 (fBin ixD (fCall m_had_of (aCons (fVar 0) aNil)) (fBin addD (fPk 1) (fC (.int 1)))))
  (sRet (fTup (aCons (fBin subD (fPk 2) (fBin ixD (fCall m_greatest_row (aCons (fVar 0) aNil)) (fBin addD (fPk 1) (fC (.int 1))))) (aCons (fBin subD (fPk 2) (fBin ixD (fCall m_least_row (aCons (fVar 0) aNil)) (fBin addD (fPk 1) (fC (.int 1))))) aNil)))))))
def m_stores_there : FS := mkFn 3 2 F_stores_there
theorem ok_stores_there {P : Program} {w : World} {K : PySem.W.Frag} {mg : Str → Option Value} {base : Heap} (D : Df K mg "stores_there" sd_stores_there) (c_check_day : Cal P w K mg base "check_day" sd_check_day 7 ps_check_day m_check_day) (c_check_run_there : Cal P w K mg base "check_run_there" sd_check_run_there 3 ps_check_run_there m_check_run_there) (c_had_of : Cal P w K mg base "had_of" sd_had_of 1 ps_had_of m_had_of) (c_least_row : Cal P w K mg base "least_row" sd_least_row 2 ps_least_row m_least_row) (c_greatest_row : Cal P w K mg base "greatest_row" sd_greatest_row 2 ps_greatest_row m_greatest_row) : Cal P w K mg base "stores_there" sd_stores_there 8 ps_stores_there m_stores_there := cal_mk (N := N_stores_there) D sc_stores_there bp_stores_there (by decide) (fun f cdv A outer s H E hgd hr => by
  have hu := hr.units
  exact (ss_cons (s1_expr (cl c_check_day hr (by decide) hgd (by rfl) (szs_cons (nZ 0 (by rfl) (.inl (by rfl))) (szs_cons (nZ 1 (by rfl) (.inl (by rfl))) szs_nil))).p)
  (ss_cons (s1_expr (cl c_check_run_there hr (by decide) hgd (by rfl) (szs_cons (nZ 0 (by rfl) (.inl (by rfl))) szs_nil)).p)
  (ss_cons (s1_asg sc_stores_there.nd (by rfl) (.inl (by rfl)) (se_ix or_ix ok_ix (cl c_had_of hr (by decide) hgd (by rfl) (szs_cons (nZ 0 (by rfl) (.inl (by rfl))) szs_nil)).p (se_bin or_add ok_add (nP 1 (by rfl) (.inl (by rfl))) sz_int.p).p (fun _ _ => rfl)))
  (ss_one (s1_ret (se_tup (ses_cons (se_bin op_sub ok_sub (nP 2 (by rfl) (.inl (by rfl))) (se_ix or_ix ok_ix (cl c_greatest_row hr (by decide) hgd (by rfl) (szs_cons (nZ 0 (by rfl) (.inl (by rfl))) szs_nil)).p (se_bin or_add ok_add (nP 1 (by rfl) (.inl (by rfl))) sz_int.p).p (fun _ _ => rfl)).p) (ses_cons (se_bin op_sub ok_sub (nP 2 (by rfl) (.inl (by rfl))) (se_ix or_ix ok_ix (cl c_least_row hr (by decide) hgd (by rfl) (szs_cons (nZ 0 (by rfl) (.inl (by rfl))) szs_nil)).p (se_bin or_add ok_add (nP 1 (by rfl) (.inl (by rfl))) sz_int.p).p (fun _ _ => rfl)).p) ses_nil)))))))))
/-! ### takes -/
abbrev sd_takes : Stmt := topS 31
abbrev N_takes : List Str := ["feed", "day"]
abbrev ps_takes : List Str := ["feed", "day"]
theorem sc_takes : FnScope N_takes ps_takes (defScope sd_takes) := ⟨rfl, rfl, rfl, by decide +kernel, rfl, by decide +kernel, by decide +kernel⟩
theorem bp_takes : BindP "takes" sd_takes ps_takes := fun _ _ _ _ _ _ us hl => match us, hl with | [_, _], _ => rfl
theorem kb_takes_0_day_feed : BindK "takes" sd_takes ps_takes ["day", "feed"] 0 [1, 0] := fun _ _ _ _ _ _ us ws h1 h2 => match us, ws, h1, h2 with | [], [_, _], _, _ => rfl
def F_takes : SS := (sSeq (sDrop (fCall m_check_day (aCons (fVar 0) (aCons (fVar 1) aNil))))
  (sSeq (sDrop (fCall m_check_run_there (aCons (fVar 0) aNil)))
  (sRet (fCall m_takes_of (aCons (fVar 0) (aCons (fVar 1) aNil))))))
def m_takes : FS := mkFn 2 2 F_takes
theorem ok_takes {P : Program} {w : World} {K : PySem.W.Frag} {mg : Str → Option Value} {base : Heap} (D : Df K mg "takes" sd_takes) (c_check_day : Cal P w K mg base "check_day" sd_check_day 7 ps_check_day m_check_day) (c_check_run_there : Cal P w K mg base "check_run_there" sd_check_run_there 3 ps_check_run_there m_check_run_there) (c_takes_of : Cal P w K mg base "takes_of" sd_takes_of 3 ps_takes_of m_takes_of) : Cal P w K mg base "takes" sd_takes 8 ps_takes m_takes := cal_mk (N := N_takes) D sc_takes bp_takes (by decide) (fun f cdv A outer s H E hgd hr => by
  have hu := hr.units
  exact (ss_cons (s1_expr (cl c_check_day hr (by decide) hgd (by rfl) (szs_cons (nZ 0 (by rfl) (.inl (by rfl))) (szs_cons (nZ 1 (by rfl) (.inl (by rfl))) szs_nil))).p)
  (ss_cons (s1_expr (cl c_check_run_there hr (by decide) hgd (by rfl) (szs_cons (nZ 0 (by rfl) (.inl (by rfl))) szs_nil)).p)
  (ss_one (s1_ret (cl c_takes_of hr (by decide) hgd (by rfl) (szs_cons (nZ 0 (by rfl) (.inl (by rfl))) (szs_cons (nZ 1 (by rfl) (.inl (by rfl))) szs_nil))))))))
/-! ### _law_one_right -/
abbrev sd__law_one_right : Stmt := topS 43
abbrev N__law_one_right : List Str := ["pot", "feed", "shown", "runs", "rows", "least", "most", "top", "one", "other", "sums", "still", "day", "there", "taken", "due", "run", "at", "row", "near", "far"]
abbrev ps__law_one_right : List Str := ["pot", "feed"]
theorem sc__law_one_right : FnScope N__law_one_right ps__law_one_right (defScope sd__law_one_right) := ⟨rfl, rfl, rfl, by decide +kernel, rfl, by decide +kernel, by decide +kernel⟩
theorem bp__law_one_right : BindP "_law_one_right" sd__law_one_right ps__law_one_right := fun _ _ _ _ _ _ us hl => match us, hl with | [_, _], _ => rfl
def F__law_one_right : SS := (sSeq (sPar 2 3 (aCons (fCl reprD (aCons (fPk 1) aNil)) (aCons (fCall m__law_runs (aCons (fVar 1) aNil)) aNil)))
  (sSeq (sIf (fB (fBin eqD (fPk 3) (fLst aNil))) (sRet (fBin isND (fCall m_first_run (aCons (fVar 1) aNil)) (fC .non))) sNil)
  (sSeq (sAsg 4 (fComp (wSeq (fVar 3)) (gN 16) bYes (fCall m__law_taken (aCons (fVar 16) aNil)) [16]))
  (sSeq (sAsg 5 (fComp (wRng1 (aCons (fCl lenD (aCons (fBin ixD (fPk 1) (fC (.int 3))) aNil)) aNil)) (gN 17) bYes (fCl (ex2D PySem.W.minD) (aCons (fComp (wSeq (fVar 4)) (gN 18) bYes (fBin ixD (fPk 18) (fPk 17)) [18]) aNil)) [17]))
  (sSeq (sAsg 6 (fComp (wRng1 (aCons (fCl lenD (aCons (fBin ixD (fPk 1) (fC (.int 3))) aNil)) aNil)) (gN 17) bYes (fCl (ex2D PySem.W.maxD) (aCons (fComp (wSeq (fVar 4)) (gN 18) bYes (fBin ixD (fPk 18) (fPk 17)) [18]) aNil)) [17]))
  (sSeq (sIf (bOr (fB (fBin ninD (fPk 5) (fPk 4))) (bOr (fB (fBin ninD (fPk 6) (fPk 4))) (fB (fBin neD (fBin ixD (fPk 3) (fC (.int 0))) (fBin ixD (fPk 3) (fBin idxD (fPk 4) (fPk 5))))))) (sRet (fC (.bl false))) sNil)
  (sSeq (sAsg 7 (fBin ixD (fPk 3) (fBin idxD (fPk 4) (fPk 6))))
  (sSeq (sIf (bNot (fB (fRe (fCall m__law_same (aCons (fZ (fLst (aCons (fCall m_first_run (aCons (fVar 1) aNil)) (aCons (fCall m_greatest_run (aCons (fVar 1) aNil)) (aCons (fCallK0 m_greatest_run [0] 1 (aCons (fVar 1) aNil)) aNil))))) (aCons (fZ (fLst (aCons (fBin ixD (fPk 3) (fC (.int 0))) (aCons (fVar 7) (aCons (fVar 7) aNil))))) aNil)))))) (sRet (fC (.bl false))) sNil)
  (sSeq (sPar 8 9 (aCons (fCall m__law_pick (aCons (fVar 0) (aCons (fVar 4) aNil))) (aCons (fCall m__law_pick (aCons (fVar 0) (aCons (fVar 4) aNil))) aNil)))
  (sSeq (sIf (bOr (fB (fBin ninD (fComp (wZipX (aCons (fVar 8) (aCons (fVar 9) aNil))) (gTupS (gConsS (gN 19) (gConsS (gN 20) gNilS)) 2) bYes (fCl min2D (aCons (fPk 19) (aCons (fPk 20) aNil))) [19, 20]) (fPk 4))) (fB (fBin ninD (fComp (wZipX (aCons (fVar 8) (aCons (fVar 9) aNil))) (gTupS (gConsS (gN 19) (gConsS (gN 20) gNilS)) 2) bYes (fCl max2D (aCons (fPk 19) (aCons (fPk 20) aNil))) [19, 20]) (fPk 4)))) (sRet (fC (.bl false))) sNil)
  (sSeq (sAsg 10 (fUn ssD (fComp (wSeq (fVar 4)) (gN 18) bYes (fBin ixD (fPk 18) (fUn negD (fC (.int 1)))) [18])))
  (sSeq (sIf (bOr (fB (fBin neD (fPk 10) (fLrg2 (fBin ixD (fPk 10) (fC (.int 0))) (fBin addD (fBin ixD (fPk 10) (fUn negD (fC (.int 1)))) (fC (.int 1)))))) (bNot (fB (fRe (fCall m__law_same (aCons (fZ (fLst (aCons (fCall m_totals (aCons (fVar 1) aNil)) (aCons (fCallK0 m_totals [0] 1 (aCons (fVar 1) aNil)) aNil)))) (aCons (fZ (fBin mulD (fLst (aCons (fTup (aCons (fBin ixD (fPk 10) (fC (.int 0))) (aCons (fBin ixD (fPk 10) (fUn negD (fC (.int 1)))) aNil))) aNil)) (fC (.int 2)))) aNil))))))) (sRet (fC (.bl false))) sNil)
  (sSeq (sAsg 11 (fLst aNil))
  (sSeq (sFor (wRng1 (aCons (fCl lenD (aCons (fBin ixD (fPk 1) (fC (.int 3))) aNil)) aNil)) (gN 12) (sSeq (sAsg 13 (fUn ssD (fComp (wSeq (fVar 3)) (gN 16) bYes (fBin ixD (fCall m__law_stores (aCons (fVar 1) (aCons (fVar 16) aNil))) (fPk 12)) [16])))
  (sSeq (sAsg 14 (fUn ssD (fComp (wSeq (fVar 3)) (gN 16) bYes (fBin ixD (fPk 16) (fPk 12)) [16])))
  (sSeq (sIf (bOr (fB (fBin neD (fPk 13) (fLrg2 (fBin ixD (fPk 13) (fC (.int 0))) (fBin addD (fBin ixD (fPk 13) (fUn negD (fC (.int 1)))) (fC (.int 1)))))) (fB (fBin neD (fPk 14) (fLrg2 (fBin ixD (fPk 14) (fC (.int 0))) (fBin addD (fBin ixD (fPk 14) (fUn negD (fC (.int 1)))) (fC (.int 1))))))) (sRet (fC (.bl false))) sNil)
  (sSeq (sAsg 15 (fLst (aCons (fCall m__law_ends (aCons (fVar 13) aNil)) (aCons (fCall m__law_ends (aCons (fVar 14) aNil)) aNil))))
  (sSeq (sIf (bNot (fB (fRe (fCall m__law_same (aCons (fZ (fLst (aCons (fLst (aCons (fCall m_stores_there (aCons (fVar 1) (aCons (fVar 12) aNil))) (aCons (fCall m_takes (aCons (fVar 1) (aCons (fVar 12) aNil))) aNil))) (aCons (fLst (aCons (fCallK0 m_stores_there [1, 0] 2 (aCons (fVar 12) (aCons (fVar 1) aNil))) (aCons (fCallK0 m_takes [1, 0] 2 (aCons (fVar 12) (aCons (fVar 1) aNil))) aNil))) aNil)))) (aCons (fZ (fLst (aCons (fVar 15) (aCons (fVar 15) aNil)))) aNil)))))) (sRet (fC (.bl false))) sNil)
  (sExt 11 (fZ (fIf (fB (fBin eqD (fCl lenD (aCons (fPk 14) aNil)) (fC (.int 1)))) (fLst (aCons (fVar 12) aNil)) (fLst aNil))))))))))
  (sRet (fAnd (fRe (fCall m__law_same (aCons (fZ (fLst (aCons (fCall m_forced (aCons (fVar 1) aNil)) (aCons (fCallK0 m_forced [0] 1 (aCons (fVar 1) aNil)) aNil)))) (aCons (fZ (fBin mulD (fZ (fLst (aCons (fCl tupD (aCons (fPk 11) aNil)) aNil))) (fC (.int 2)))) aNil)))) (fBin eqD (fCl reprD (aCons (fPk 1) aNil)) (fPk 2))))))))))))))))))
def m__law_one_right : FS := mkFn 21 2 F__law_one_right
theorem ok__law_one_right {P : Program} {w : World} {K : PySem.W.Frag} {mg : Str → Option Value} {base : Heap} (D : Df K mg "_law_one_right" sd__law_one_right) (c__law_runs : Cal P w K mg base "_law_runs" sd__law_runs 1 ps__law_runs m__law_runs) (c_first_run : Cal P w K mg base "first_run" sd_first_run 7 ps_first_run m_first_run) (c__law_taken : Cal P w K mg base "_law_taken" sd__law_taken 1 ps__law_taken m__law_taken) (c__law_same : Cal P w K mg base "_law_same" sd__law_same 8 ps__law_same m__law_same) (c_greatest_run : Cal P w K mg base "greatest_run" sd_greatest_run 7 ps_greatest_run m_greatest_run) (c__law_pick : Cal P w K mg base "_law_pick" sd__law_pick 2 ps__law_pick m__law_pick) (c_totals : Cal P w K mg base "totals" sd_totals 7 ps_totals m_totals) (c__law_stores : Cal P w K mg base "_law_stores" sd__law_stores 1 ps__law_stores m__law_stores) (c__law_ends : Cal P w K mg base "_law_ends" sd__law_ends 1 ps__law_ends m__law_ends) (c_takes : Cal P w K mg base "takes" sd_takes 8 ps_takes m_takes) (c_stores_there : Cal P w K mg base "stores_there" sd_stores_there 8 ps_stores_there m_stores_there) (c_forced : Cal P w K mg base "forced" sd_forced 7 ps_forced m_forced) (z_repr : mg "repr" = none) (z_len : mg "len" = none) (z_range : mg "range" = none) (z_min : mg "min" = none) (z_max : mg "max" = none) (z_zip : mg "zip" = none) (z_sorted : mg "sorted" = none) (z_set : mg "set" = none) (z_list : mg "list" = none) (z_tuple : mg "tuple" = none) : Cal P w K mg base "_law_one_right" sd__law_one_right 9 ps__law_one_right m__law_one_right := cal_mk (N := N__law_one_right) D sc__law_one_right bp__law_one_right (by decide) (fun f cdv A outer s H E hgd hr => by
  have hu := hr.units
  exact (ss_cons (s1_par (by rfl) sc__law_one_right.nd (by rfl) (by rfl) (by decide) (by rfl) (by rfl) (ses_cons (b_repr hgd hu (by rfl) z_repr (nP 1 (by rfl) (.inr (.inl (by rfl))))) (ses_cons (cl c__law_runs hr (by decide) hgd (by rfl) (szs_cons (nZ 1 (by rfl) (.inr (.inl (by rfl)))) szs_nil)) ses_nil)) (by rfl))
  (ss_cons (s1_if (st_cmp (or_eq hu) ok_eq (nP 3 (by rfl) (.inl (by rfl))) (se_lst ses_nil).p (nomark _)) (ss_one (s1_ret (se_cmp op_isN ok_isN (cl c_first_run hr (by decide) hgd (by rfl) (szs_cons (nZ 1 (by rfl) (.inr (.inl (by rfl)))) szs_nil)).p sz_non.p (nomark _)))) ss_nil)
  (ss_cons (s1_asg sc__law_one_right.nd (by rfl) (.inr (by rfl)) (se_lc (own := [("run", 16)]) (by rfl) sc__law_one_right.nd (si_seq (nZ 3 (by rfl) (.inl (by rfl)))) (by rfl) (by rfl) (by decide) (fun _ _ _ _ _ => (sg_name (pg_name (i := 16) sc__law_one_right.nd (by rfl) (.inl (by rfl))))) (fun _ _ _ _ _ => sts_nil) (fun _ _ _ _ _ => (cl c__law_taken hr (by decide) hgd (by rfl) (szs_cons (nZ 16 (by rfl) (.inl (by rfl))) szs_nil)))))
  (ss_cons (s1_asgLc (own := [("at", 17)]) (by rfl) sc__law_one_right.nd (by rfl) (by rfl) (sw_true (by rfl) (by rfl) (by rfl) (by decide +kernel)) (si_rng1 (by rfl) z_range (sps_cons (b_len (by rfl) z_len (se_ix or_ix ok_ix (nP 1 (by rfl) (.inr (.inl (by rfl)))) sz_int.p (fun _ _ => rfl)).p).p sps_nil)) (by rfl) (by rfl) (by decide) (fun _ _ _ _ _ => (sg_name (pg_name (i := 17) sc__law_one_right.nd (by rfl) (.inr (by rfl))))) (fun _ _ _ _ _ => sts_nil) (fun _ _ _ _ _ => (b_min1t (by rfl) hu (by rfl) z_min (se_lc (own := [("row", 18)]) (by rfl) sc__law_one_right.nd (si_seq (nZ 4 (by rfl) (.inr (.inl (by rfl))))) (by rfl) (by rfl) (by decide) (fun _ _ _ _ _ => (sg_name (pg_name (i := 18) sc__law_one_right.nd (by rfl) (.inl (by rfl))))) (fun _ _ _ _ _ => sts_nil) (fun _ _ _ _ _ => (se_ix or_ix ok_ix (nP 18 (by rfl) (.inl (by rfl))) (nP 17 (by rfl) (.inr (.inl (by rfl)))) (fun _ _ => rfl)))).p)))
  (ss_cons (s1_asgLc (own := [("at", 17)]) (by rfl) sc__law_one_right.nd (by rfl) (by rfl) (sw_true (by rfl) (by rfl) (by rfl) (by decide +kernel)) (si_rng1 (by rfl) z_range (sps_cons (b_len (by rfl) z_len (se_ix or_ix ok_ix (nP 1 (by rfl) (.inr (.inl (by rfl)))) sz_int.p (fun _ _ => rfl)).p).p sps_nil)) (by rfl) (by rfl) (by decide) (fun _ _ _ _ _ => (sg_name (pg_name (i := 17) sc__law_one_right.nd (by rfl) (.inr (by rfl))))) (fun _ _ _ _ _ => sts_nil) (fun _ _ _ _ _ => (b_max1t (by rfl) hu (by rfl) z_max (se_lc (own := [("row", 18)]) (by rfl) sc__law_one_right.nd (si_seq (nZ 4 (by rfl) (.inr (.inl (by rfl))))) (by rfl) (by rfl) (by decide) (fun _ _ _ _ _ => (sg_name (pg_name (i := 18) sc__law_one_right.nd (by rfl) (.inl (by rfl))))) (fun _ _ _ _ _ => sts_nil) (fun _ _ _ _ _ => (se_ix or_ix ok_ix (nP 18 (by rfl) (.inl (by rfl))) (nP 17 (by rfl) (.inr (.inl (by rfl)))) (fun _ _ => rfl)))).p)))
  (ss_cons (s1_if (sw_or (st_cmp (op_notInDT (room5 hr)) ok_mem (nP 5 (by rfl) (.inl (by rfl))) (nP 4 (by rfl) (.inr (.inl (by rfl)))) (by with_unfolding_all rfl)) (sw_or (st_cmp (op_notInDT (room5 hr)) ok_mem (nP 6 (by rfl) (.inl (by rfl))) (nP 4 (by rfl) (.inr (.inl (by rfl)))) (by with_unfolding_all rfl)) (sw_or1 (st_cmp (or_ne hu) ok_ne (se_ix or_ix ok_ix (nP 3 (by rfl) (.inl (by rfl))) sz_int.p (fun _ _ => rfl)).p (se_ix or_ix ok_ix (nP 3 (by rfl) (.inl (by rfl))) (se_index (room5 hr) (nP 4 (by rfl) (.inr (.inl (by rfl)))) (nP 5 (by rfl) (.inl (by rfl)))).p (fun _ _ => rfl)).p (nomark _))))).st (ss_one (s1_ret sz_bl.se)) ss_nil)
  (ss_cons (s1_asg sc__law_one_right.nd (by rfl) (.inl (by rfl)) (se_ix or_ix ok_ix (nP 3 (by rfl) (.inl (by rfl))) (se_index (room5 hr) (nP 4 (by rfl) (.inr (.inl (by rfl)))) (nP 6 (by rfl) (.inl (by rfl)))).p (fun _ _ => rfl)))
  (ss_cons (s1_if (st_not (st_val (se_re (cl c__law_same hr (by decide) hgd (by rfl) (szs_cons (se_lst (ses_cons (cl c_first_run hr (by decide) hgd (by rfl) (szs_cons (nZ 1 (by rfl) (.inr (.inl (by rfl)))) szs_nil)) (ses_cons (cl c_greatest_run hr (by decide) hgd (by rfl) (szs_cons (nZ 1 (by rfl) (.inr (.inl (by rfl)))) szs_nil)) (ses_cons (clk0 c_greatest_run kb_greatest_run_0_feed hr (by decide) hgd (by rfl) rfl (sk_cons (nZ 1 (by rfl) (.inr (.inl (by rfl)))) sk_nil)) ses_nil)))).z (szs_cons (se_lst (ses_cons (se_ix or_ix ok_ix (nP 3 (by rfl) (.inl (by rfl))) sz_int.p (fun _ _ => rfl)) (ses_cons (nZ 7 (by rfl) (.inl (by rfl))).se (ses_cons (nZ 7 (by rfl) (.inl (by rfl))).se ses_nil)))).z szs_nil)))).p)) (ss_one (s1_ret sz_bl.se)) ss_nil)
  (ss_cons (s1_par (by rfl) sc__law_one_right.nd (by rfl) (by rfl) (by decide) (by rfl) (by rfl) (ses_cons (cl c__law_pick hr (by decide) hgd (by rfl) (szs_cons (nZ 0 (by rfl) (.inl (by rfl))) (szs_cons (nZ 4 (by rfl) (.inr (.inl (by rfl)))) szs_nil))) (ses_cons (cl c__law_pick hr (by decide) hgd (by rfl) (szs_cons (nZ 0 (by rfl) (.inl (by rfl))) (szs_cons (nZ 4 (by rfl) (.inr (.inl (by rfl)))) szs_nil))) ses_nil)) (by rfl))
  (ss_cons (s1_if (sw_or (st_cmp (op_notInDT (room5 hr)) ok_mem (se_lc (own := [("near", 19), ("far", 20)]) (by rfl) sc__law_one_right.nd (si_zipX (by rfl) z_zip (szs_cons (nZ 8 (by rfl) (.inl (by rfl))) (szs_cons (nZ 9 (by rfl) (.inl (by rfl))) szs_nil))) (by rfl) (by rfl) (by decide) (fun _ _ _ _ _ => (sg_tup (pg_tup (by rfl) (sgs_cons (sg_name (pg_name (i := 19) sc__law_one_right.nd (by rfl) (.inl (by rfl)))) (sgs_cons (sg_name (pg_name (i := 20) sc__law_one_right.nd (by rfl) (.inl (by rfl)))) sgs_nil (pgs_cons (sg_name (pg_name (i := 20) sc__law_one_right.nd (by rfl) (.inl (by rfl)))) sgs_nil)) (pgs_cons (sg_name (pg_name (i := 19) sc__law_one_right.nd (by rfl) (.inl (by rfl)))) (sgs_cons (sg_name (pg_name (i := 20) sc__law_one_right.nd (by rfl) (.inl (by rfl)))) sgs_nil (pgs_cons (sg_name (pg_name (i := 20) sc__law_one_right.nd (by rfl) (.inl (by rfl)))) sgs_nil))))))) (fun _ _ _ _ _ => sts_nil) (fun _ _ _ _ _ => (b_min2 (by rfl) (by rfl) z_min (nP 19 (by rfl) (.inl (by rfl))) (nP 20 (by rfl) (.inl (by rfl)))))).p (nP 4 (by rfl) (.inr (.inl (by rfl)))) (by with_unfolding_all rfl)) (sw_or1 (st_cmp (op_notInDT (room5 hr)) ok_mem (se_lc (own := [("near", 19), ("far", 20)]) (by rfl) sc__law_one_right.nd (si_zipX (by rfl) z_zip (szs_cons (nZ 8 (by rfl) (.inl (by rfl))) (szs_cons (nZ 9 (by rfl) (.inl (by rfl))) szs_nil))) (by rfl) (by rfl) (by decide) (fun _ _ _ _ _ => (sg_tup (pg_tup (by rfl) (sgs_cons (sg_name (pg_name (i := 19) sc__law_one_right.nd (by rfl) (.inl (by rfl)))) (sgs_cons (sg_name (pg_name (i := 20) sc__law_one_right.nd (by rfl) (.inl (by rfl)))) sgs_nil (pgs_cons (sg_name (pg_name (i := 20) sc__law_one_right.nd (by rfl) (.inl (by rfl)))) sgs_nil)) (pgs_cons (sg_name (pg_name (i := 19) sc__law_one_right.nd (by rfl) (.inl (by rfl)))) (sgs_cons (sg_name (pg_name (i := 20) sc__law_one_right.nd (by rfl) (.inl (by rfl)))) sgs_nil (pgs_cons (sg_name (pg_name (i := 20) sc__law_one_right.nd (by rfl) (.inl (by rfl)))) sgs_nil))))))) (fun _ _ _ _ _ => sts_nil) (fun _ _ _ _ _ => (b_max2 (by rfl) (by rfl) z_max (nP 19 (by rfl) (.inl (by rfl))) (nP 20 (by rfl) (.inl (by rfl)))))).p (nP 4 (by rfl) (.inr (.inl (by rfl)))) (by with_unfolding_all rfl)))).st (ss_one (s1_ret sz_bl.se)) ss_nil)
  (ss_cons (s1_asg sc__law_one_right.nd (by rfl) (.inl (by rfl)) (se_sortSet (by rfl) (by rfl) z_sorted (by rfl) z_set (se_lc (own := [("row", 18)]) (by rfl) sc__law_one_right.nd (si_seq (nZ 4 (by rfl) (.inr (.inl (by rfl))))) (by rfl) (by rfl) (by decide) (fun _ _ _ _ _ => (sg_name (pg_name (i := 18) sc__law_one_right.nd (by rfl) (.inl (by rfl))))) (fun _ _ _ _ _ => sts_nil) (fun _ _ _ _ _ => (se_ix or_ix ok_ix (nP 18 (by rfl) (.inl (by rfl))) (se_un un_neg ok_neg sz_int.p).p (fun _ _ => rfl)))).p))
  (ss_cons (s1_if (sw_or (st_cmp (or_ne hu) ok_ne (nP 10 (by rfl) (.inl (by rfl))) (se_lrg2 (by rfl) (by rfl) z_list (by rfl) z_range (se_ix or_ix ok_ix (nP 10 (by rfl) (.inl (by rfl))) sz_int.p (fun _ _ => rfl)).p (se_bin or_add ok_add (se_ix or_ix ok_ix (nP 10 (by rfl) (.inl (by rfl))) (se_un un_neg ok_neg sz_int.p).p (fun _ _ => rfl)).p sz_int.p).p).p (nomark _)) (sw_or1 (st_not (st_val (se_re (cl c__law_same hr (by decide) hgd (by rfl) (szs_cons (se_lst (ses_cons (cl c_totals hr (by decide) hgd (by rfl) (szs_cons (nZ 1 (by rfl) (.inr (.inl (by rfl)))) szs_nil)) (ses_cons (clk0 c_totals kb_totals_0_feed hr (by decide) hgd (by rfl) rfl (sk_cons (nZ 1 (by rfl) (.inr (.inl (by rfl)))) sk_nil)) ses_nil))).z (szs_cons (se_bin or_mul ok_mul (se_lst (ses_cons (se_tup (ses_cons (se_ix or_ix ok_ix (nP 10 (by rfl) (.inl (by rfl))) sz_int.p (fun _ _ => rfl)) (ses_cons (se_ix or_ix ok_ix (nP 10 (by rfl) (.inl (by rfl))) (se_un un_neg ok_neg sz_int.p).p (fun _ _ => rfl)) ses_nil))) ses_nil)).p sz_int.p).z szs_nil)))).p)))).st (ss_one (s1_ret sz_bl.se)) ss_nil)
  (ss_cons (s1_asg sc__law_one_right.nd (by rfl) (.inl (by rfl)) (se_lst ses_nil))
  (ss_cons (s1_for PassesOwn.never (by rfl) (si_rng1 (by rfl) z_range (sps_cons (b_len (by rfl) z_len (se_ix or_ix ok_ix (nP 1 (by rfl) (.inr (.inl (by rfl)))) sz_int.p (fun _ _ => rfl)).p).p sps_nil)) (sg_name (pg_name (i := 12) sc__law_one_right.nd (by rfl) (.inr (by rfl)))) (ss_cons (s1_asg sc__law_one_right.nd (by rfl) (.inl (by rfl)) (se_sortSet (by rfl) (by rfl) z_sorted (by rfl) z_set (se_lc (own := [("run", 16)]) (by rfl) sc__law_one_right.nd (si_seq (nZ 3 (by rfl) (.inl (by rfl)))) (by rfl) (by rfl) (by decide) (fun _ _ _ _ _ => (sg_name (pg_name (i := 16) sc__law_one_right.nd (by rfl) (.inl (by rfl))))) (fun _ _ _ _ _ => sts_nil) (fun _ _ _ _ _ => (se_ix or_ix ok_ix (cl c__law_stores hr (by decide) hgd (by rfl) (szs_cons (nZ 1 (by rfl) (.inr (.inl (by rfl)))) (szs_cons (nZ 16 (by rfl) (.inl (by rfl))) szs_nil))).p (nP 12 (by rfl) (.inr (.inl (by rfl)))) (fun _ _ => rfl)))).p))
  (ss_cons (s1_asg sc__law_one_right.nd (by rfl) (.inl (by rfl)) (se_sortSet (by rfl) (by rfl) z_sorted (by rfl) z_set (se_lc (own := [("run", 16)]) (by rfl) sc__law_one_right.nd (si_seq (nZ 3 (by rfl) (.inl (by rfl)))) (by rfl) (by rfl) (by decide) (fun _ _ _ _ _ => (sg_name (pg_name (i := 16) sc__law_one_right.nd (by rfl) (.inl (by rfl))))) (fun _ _ _ _ _ => sts_nil) (fun _ _ _ _ _ => (se_ix or_ix ok_ix (nP 16 (by rfl) (.inl (by rfl))) (nP 12 (by rfl) (.inr (.inl (by rfl)))) (fun _ _ => rfl)))).p))
  (ss_cons (s1_if (sw_or (st_cmp (or_ne hu) ok_ne (nP 13 (by rfl) (.inl (by rfl))) (se_lrg2 (by rfl) (by rfl) z_list (by rfl) z_range (se_ix or_ix ok_ix (nP 13 (by rfl) (.inl (by rfl))) sz_int.p (fun _ _ => rfl)).p (se_bin or_add ok_add (se_ix or_ix ok_ix (nP 13 (by rfl) (.inl (by rfl))) (se_un un_neg ok_neg sz_int.p).p (fun _ _ => rfl)).p sz_int.p).p).p (nomark _)) (sw_or1 (st_cmp (or_ne hu) ok_ne (nP 14 (by rfl) (.inl (by rfl))) (se_lrg2 (by rfl) (by rfl) z_list (by rfl) z_range (se_ix or_ix ok_ix (nP 14 (by rfl) (.inl (by rfl))) sz_int.p (fun _ _ => rfl)).p (se_bin or_add ok_add (se_ix or_ix ok_ix (nP 14 (by rfl) (.inl (by rfl))) (se_un un_neg ok_neg sz_int.p).p (fun _ _ => rfl)).p sz_int.p).p).p (nomark _)))).st (ss_one (s1_ret sz_bl.se)) ss_nil)
  (ss_cons (s1_asg sc__law_one_right.nd (by rfl) (.inl (by rfl)) (se_lst (ses_cons (cl c__law_ends hr (by decide) hgd (by rfl) (szs_cons (nZ 13 (by rfl) (.inl (by rfl))) szs_nil)) (ses_cons (cl c__law_ends hr (by decide) hgd (by rfl) (szs_cons (nZ 14 (by rfl) (.inl (by rfl))) szs_nil)) ses_nil))))
  (ss_cons (s1_if (st_not (st_val (se_re (cl c__law_same hr (by decide) hgd (by rfl) (szs_cons (se_lst (ses_cons (se_lst (ses_cons (cl c_stores_there hr (by decide) hgd (by rfl) (szs_cons (nZ 1 (by rfl) (.inr (.inl (by rfl)))) (szs_cons (nZ 12 (by rfl) (.inr (.inl (by rfl)))) szs_nil))) (ses_cons (cl c_takes hr (by decide) hgd (by rfl) (szs_cons (nZ 1 (by rfl) (.inr (.inl (by rfl)))) (szs_cons (nZ 12 (by rfl) (.inr (.inl (by rfl)))) szs_nil))) ses_nil))) (ses_cons (se_lst (ses_cons (clk0 c_stores_there kb_stores_there_0_day_feed hr (by decide) hgd (by rfl) rfl (sk_cons (nZ 12 (by rfl) (.inr (.inl (by rfl)))) (sk_cons (nZ 1 (by rfl) (.inr (.inl (by rfl)))) sk_nil))) (ses_cons (clk0 c_takes kb_takes_0_day_feed hr (by decide) hgd (by rfl) rfl (sk_cons (nZ 12 (by rfl) (.inr (.inl (by rfl)))) (sk_cons (nZ 1 (by rfl) (.inr (.inl (by rfl)))) sk_nil))) ses_nil))) ses_nil))).z (szs_cons (se_lst (ses_cons (nZ 15 (by rfl) (.inl (by rfl))).se (ses_cons (nZ 15 (by rfl) (.inl (by rfl))).se ses_nil))).z szs_nil)))).p)) (ss_one (s1_ret sz_bl.se)) ss_nil)
  (ss_one (s1_ext (pe_var (i := 11) (by rfl) (.inl (by rfl))) (se_if (st_cmp (or_eq hu) ok_eq (b_len (by rfl) z_len (nP 14 (by rfl) (.inl (by rfl)))).p sz_int.p (nomark _)) (se_lst (ses_cons (nZ 12 (by rfl) (.inr (.inl (by rfl)))).se ses_nil)) (se_lst ses_nil)).z))))))))
  (ss_one (s1_ret (se_and (se_re (cl c__law_same hr (by decide) hgd (by rfl) (szs_cons (se_lst (ses_cons (cl c_forced hr (by decide) hgd (by rfl) (szs_cons (nZ 1 (by rfl) (.inr (.inl (by rfl)))) szs_nil)) (ses_cons (clk0 c_forced kb_forced_0_feed hr (by decide) hgd (by rfl) rfl (sk_cons (nZ 1 (by rfl) (.inr (.inl (by rfl)))) sk_nil)) ses_nil))).z (szs_cons (se_bin or_mul ok_mul (se_lst (ses_cons (b_tuple (by rfl) z_tuple (nP 11 (by rfl) (.inl (by rfl)))) ses_nil)).z.p sz_int.p).z szs_nil)))).p (se_one (se_cmp (or_eq hu) ok_eq (b_repr hgd hu (by rfl) z_repr (nP 1 (by rfl) (.inr (.inl (by rfl))))).p (nP 2 (by rfl) (.inl (by rfl))) (nomark _)))))))))))))))))))))
/-! ### _law_feed -/
abbrev sd__law_feed : Stmt := topS 38
abbrev N__law_feed : List Str := ["pot", "most", "size", "room", "days", "day", "low"]
abbrev ps__law_feed : List Str := ["pot", "most", "size"]
theorem sc__law_feed : FnScope N__law_feed ps__law_feed (defScope sd__law_feed) := ⟨rfl, rfl, rfl, by decide +kernel, rfl, by decide +kernel, by decide +kernel⟩
theorem bp__law_feed : BindP "_law_feed" sd__law_feed ps__law_feed := fun _ _ _ _ _ _ us hl => match us, hl with | [_, _, _], _ => rfl
def F__law_feed : SS := (sSeq (sAsg 3 (fCall m__law_draw (aCons (fVar 0) (aCons (fZ (fBin addD (fPk 2) (fC (.int 2)))) aNil))))
  (sSeq (sAsg 4 (fLst aNil))
  (sSeq (sFor (wRng1 (aCons (fBin addD (fC (.int 1)) (fCall m__law_draw (aCons (fVar 0) (aCons (fVar 1) aNil)))) aNil)) (gN 5) (sSeq (sAsg 6 (fCall m__law_pick (aCons (fVar 0) (aCons (fZ (fLst (aCons (fC (.int 0)) (aCons (fC (.int 0)) (aCons (fCall m__law_draw (aCons (fVar 0) (aCons (fC (.int 3)) aNil))) aNil))))) aNil))))
  (sApp 4 (fTup (aCons (fCall m__law_draw (aCons (fVar 0) (aCons (fZ (fBin addD (fPk 2) (fC (.int 1)))) aNil))) (aCons (fVar 6) (aCons (fBin addD (fPk 6) (fCall m__law_draw (aCons (fVar 0) (aCons (fVar 2) aNil)))) aNil)))))))
  (sRet (fTup (aCons (fC (.str "feed")) (aCons (fVar 3) (aCons (fCall m__law_draw (aCons (fVar 0) (aCons (fZ (fBin addD (fPk 3) (fC (.int 1)))) aNil))) (aCons (fCl tupD (aCons (fPk 4) aNil)) aNil)))))))))
def m__law_feed : FS := mkFn 7 3 F__law_feed
theorem ok__law_feed {P : Program} {w : World} {K : PySem.W.Frag} {mg : Str → Option Value} {base : Heap} (D : Df K mg "_law_feed" sd__law_feed) (c__law_draw : Cal P w K mg base "_law_draw" sd__law_draw 1 ps__law_draw m__law_draw) (c__law_pick : Cal P w K mg base "_law_pick" sd__law_pick 2 ps__law_pick m__law_pick) (z_range : mg "range" = none) (z_tuple : mg "tuple" = none) : Cal P w K mg base "_law_feed" sd__law_feed 3 ps__law_feed m__law_feed := cal_mk (N := N__law_feed) D sc__law_feed bp__law_feed (by decide) (fun f cdv A outer s H E hgd hr => by
  have hu := hr.units
  exact (ss_cons (s1_asg sc__law_feed.nd (by rfl) (.inl (by rfl)) (cl c__law_draw hr (by decide) hgd (by rfl) (szs_cons (nZ 0 (by rfl) (.inl (by rfl))) (szs_cons (se_bin or_add ok_add (nP 2 (by rfl) (.inl (by rfl))) sz_int.p).z szs_nil))))
  (ss_cons (s1_asg sc__law_feed.nd (by rfl) (.inl (by rfl)) (se_lst ses_nil))
  (ss_cons (s1_for PassesOwn.never (by rfl) (si_rng1 (by rfl) z_range (sps_cons (se_bin or_add ok_add sz_int.p (cl c__law_draw hr (by decide) hgd (by rfl) (szs_cons (nZ 0 (by rfl) (.inl (by rfl))) (szs_cons (nZ 1 (by rfl) (.inl (by rfl))) szs_nil))).p).p sps_nil)) (sg_name (pg_name (i := 5) sc__law_feed.nd (by rfl) (.inl (by rfl)))) (ss_cons (s1_asg sc__law_feed.nd (by rfl) (.inl (by rfl)) (cl c__law_pick hr (by decide) hgd (by rfl) (szs_cons (nZ 0 (by rfl) (.inl (by rfl))) (szs_cons (se_lst (ses_cons sz_int.se (ses_cons sz_int.se (ses_cons (cl c__law_draw hr (by decide) hgd (by rfl) (szs_cons (nZ 0 (by rfl) (.inl (by rfl))) (szs_cons sz_int szs_nil))) ses_nil)))).z szs_nil))))
  (ss_one (s1_app (pe_var (i := 4) (by rfl) (.inl (by rfl))) (se_tup (ses_cons (cl c__law_draw hr (by decide) hgd (by rfl) (szs_cons (nZ 0 (by rfl) (.inl (by rfl))) (szs_cons (se_bin or_add ok_add (nP 2 (by rfl) (.inl (by rfl))) sz_int.p).z szs_nil))) (ses_cons (nZ 6 (by rfl) (.inl (by rfl))).se (ses_cons (se_bin or_add ok_add (nP 6 (by rfl) (.inl (by rfl))) (cl c__law_draw hr (by decide) hgd (by rfl) (szs_cons (nZ 0 (by rfl) (.inl (by rfl))) (szs_cons (nZ 2 (by rfl) (.inl (by rfl))) szs_nil))).p) ses_nil))))))))
  (ss_one (s1_ret (se_tup (ses_cons sz_str.se (ses_cons (nZ 3 (by rfl) (.inl (by rfl))).se (ses_cons (cl c__law_draw hr (by decide) hgd (by rfl) (szs_cons (nZ 0 (by rfl) (.inl (by rfl))) (szs_cons (se_bin or_add ok_add (nP 3 (by rfl) (.inl (by rfl))) sz_int.p).z szs_nil))) (ses_cons (b_tuple (by rfl) z_tuple (nP 4 (by rfl) (.inl (by rfl)))) ses_nil)))))))))))
/-! ### _law_right -/
abbrev sd__law_right : Stmt := topS 44
abbrev N__law_right : List Str := ["pot", "turn"]
abbrev ps__law_right : List Str := ["pot"]
theorem sc__law_right : FnScope N__law_right ps__law_right (defScope sd__law_right) := ⟨rfl, rfl, rfl, by decide +kernel, rfl, by decide +kernel, by decide +kernel⟩
theorem bp__law_right : BindP "_law_right" sd__law_right ps__law_right := fun _ _ _ _ _ _ us hl => match us, hl with | [_], _ => rfl
def F__law_right : SS := (sRet (fCl allD (aCons (fComp (wRng1 (aCons (fC (.int 4)) aNil)) (gN 1) bYes (fCall m__law_one_right (aCons (fVar 0) (aCons (fZ (fCall m__law_feed (aCons (fVar 0) (aCons (fZ (fCall m__law_pick (aCons (fVar 0) (aCons (fZ (fLst (aCons (fC (.int 3)) (aCons (fC (.int 4)) (aCons (fC (.int 5)) aNil))))) aNil)))) (aCons (fZ (fCall m__law_pick (aCons (fVar 0) (aCons (fZ (fLst (aCons (fC (.int 2)) (aCons (fC (.int 3)) (aCons (fC (.int 4)) aNil))))) aNil)))) aNil))))) aNil))) [1]) aNil)))
def m__law_right : FS := mkFn 2 1 F__law_right
theorem ok__law_right {P : Program} {w : World} {K : PySem.W.Frag} {mg : Str → Option Value} {base : Heap} (D : Df K mg "_law_right" sd__law_right) (c__law_one_right : Cal P w K mg base "_law_one_right" sd__law_one_right 9 ps__law_one_right m__law_one_right) (c__law_feed : Cal P w K mg base "_law_feed" sd__law_feed 3 ps__law_feed m__law_feed) (c__law_pick : Cal P w K mg base "_law_pick" sd__law_pick 2 ps__law_pick m__law_pick) (z_range : mg "range" = none) (z_all : mg "all" = none) : Cal P w K mg base "_law_right" sd__law_right 10 ps__law_right m__law_right := cal_mk (N := N__law_right) D sc__law_right bp__law_right (by decide) (fun f cdv A outer s H E hgd hr => by
  have hu := hr.units
  exact (ss_one (s1_ret (b_all (by rfl) (by rfl) z_all (se_lc (own := [("turn", 1)]) (by rfl) sc__law_right.nd (si_rng1 (by rfl) z_range (sps_cons sz_int.p sps_nil)) (by rfl) (by rfl) (by decide) (fun _ _ _ _ _ => (sg_name (pg_name (i := 1) sc__law_right.nd (by rfl) (.inl (by rfl))))) (fun _ _ _ _ _ => sts_nil) (fun _ _ _ _ _ => (cl c__law_one_right hr (by decide) hgd (by rfl) (szs_cons (nZ 0 (by rfl) (.inr (.inl (by rfl)))) (szs_cons (cl c__law_feed hr (by decide) hgd (by rfl) (szs_cons (nZ 0 (by rfl) (.inr (.inl (by rfl)))) (szs_cons (cl c__law_pick hr (by decide) hgd (by rfl) (szs_cons (nZ 0 (by rfl) (.inr (.inl (by rfl)))) (szs_cons (se_lst (ses_cons sz_int.se (ses_cons sz_int.se (ses_cons sz_int.se ses_nil)))).z szs_nil))).z (szs_cons (cl c__law_pick hr (by decide) hgd (by rfl) (szs_cons (nZ 0 (by rfl) (.inr (.inl (by rfl)))) (szs_cons (se_lst (ses_cons sz_int.se (ses_cons sz_int.se (ses_cons sz_int.se ses_nil)))).z szs_nil))).z szs_nil)))).z szs_nil))))).p))))
/-! ### _law_pot -/
abbrev sd__law_pot : Stmt := topS 34
abbrev N__law_pot : List Str := ["script", "k", "cell"]
abbrev ps__law_pot : List Str := ["script", "k"]
theorem sc__law_pot : FnScope N__law_pot ps__law_pot (defScope sd__law_pot) := ⟨rfl, rfl, rfl, by decide +kernel, rfl, by decide +kernel, by decide +kernel⟩
theorem bp__law_pot : BindP "_law_pot" sd__law_pot ps__law_pot := fun _ _ _ _ _ _ us hl => match us, hl with | [_, _], _ => rfl
def F__law_pot : SS := (sSeq (sAsg 2 (fIf (fB (fBin ltD (fPk 1) (fCl lenD (aCons (fPk 0) aNil)))) (fCl absD (aCons (fBin ixD (fPk 0) (fPk 1)) aNil)) (fBin addD (fBin mulD (fC (.int 3209)) (fPk 1)) (fC (.int 2383)))))
  (sRet (fLst (aCons (fCl max2D (aCons (fC (.int 0)) (aCons (fBin subD (fPk 2) (fBin powD (fC (.int 10)) (fC (.int 18)))) aNil))) (aCons (fBin addD (fBin modD (fCl int1D (aCons (fBin addD (fBin addD (fBin mulD (fBin modD (fCl int1D (aCons (fPk 2) aNil)) (fC (.int 2147483549))) (fC (.int 40014))) (fBin mulD (fC (.int 8123)) (fPk 1))) (fC (.int 1931))) aNil)) (fC (.int 2147483563))) (fC (.int 1))) aNil)))))
def m__law_pot : FS := mkFn 3 2 F__law_pot
theorem ok__law_pot {P : Program} {w : World} {K : PySem.W.Frag} {mg : Str → Option Value} {base : Heap} (D : Df K mg "_law_pot" sd__law_pot) (z_len : mg "len" = none) (z_abs : mg "abs" = none) (z_int : mg "int" = none) (z_max : mg "max" = none) : Cal P w K mg base "_law_pot" sd__law_pot 1 ps__law_pot m__law_pot := cal_mk (N := N__law_pot) D sc__law_pot bp__law_pot (by decide) (fun f cdv A outer s H E hgd hr => by
  have hu := hr.units
  exact (ss_cons (s1_asg sc__law_pot.nd (by rfl) (.inl (by rfl)) (se_if (st_cmp op_lt ok_cmp (nP 1 (by rfl) (.inl (by rfl))) (b_len (by rfl) z_len (nP 0 (by rfl) (.inl (by rfl)))).p (nomark _)) (b_abs (by rfl) z_abs (se_ix or_ix ok_ix (nP 0 (by rfl) (.inl (by rfl))) (nP 1 (by rfl) (.inl (by rfl))) (fun _ _ => rfl)).p) (se_bin or_add ok_add (se_bin or_mul ok_mul sz_int.p (nP 1 (by rfl) (.inl (by rfl)))).p sz_int.p)))
  (ss_one (s1_ret (se_lst (ses_cons (b_max2 (by rfl) (by rfl) z_max sz_int.p (se_bin op_sub ok_sub (nP 2 (by rfl) (.inl (by rfl))) (se_bin op_pow ok_pow sz_int.p sz_int.p).p).p) (ses_cons (se_bin or_add ok_add (se_bin op_modN ok_mod (b_int (by rfl) z_int (se_bin or_add ok_add (se_bin or_add ok_add (se_bin or_mul ok_mul (se_bin op_modN ok_mod (b_int (by rfl) z_int (nP 2 (by rfl) (.inl (by rfl)))).p sz_int.p).p sz_int.p).p (se_bin or_mul ok_mul sz_int.p (nP 1 (by rfl) (.inl (by rfl)))).p).p sz_int.p).p).p sz_int.p).p sz_int.p) ses_nil)))))))
/-! ### law -/
abbrev sd_law : Stmt := topS 45
abbrev N_law : List Str := ["script", "k"]
abbrev ps_law : List Str := ["script"]
theorem sc_law : FnScope N_law ps_law (defScope sd_law) := ⟨rfl, rfl, rfl, by decide +kernel, rfl, by decide +kernel, by decide +kernel⟩
theorem bp_law : BindP "law" sd_law ps_law := fun _ _ _ _ _ _ us hl => match us, hl with | [_], _ => rfl
def F_law : SS := (sRet (fCl allD (aCons (fComp (wRng1 (aCons (fCl max2D (aCons (fC (.int 1)) (aCons (fCl min2D (aCons (fC (.int 2)) (aCons (fCl lenD (aCons (fPk 0) aNil)) aNil))) aNil))) aNil)) (gN 1) bYes (fCall m__law_right (aCons (fCellCall m__law_pot (aCons (fVar 0) (aCons (fVar 1) aNil))) aNil)) [1]) aNil)))
def m_law : FS := mkFn 2 1 F_law
theorem ok_law {P : Program} {w : World} {K : PySem.W.Frag} {mg : Str → Option Value} {base : Heap} (D : Df K mg "law" sd_law) (c__law_right : Cal P w K mg base "_law_right" sd__law_right 10 ps__law_right m__law_right) (c__law_pot : Cal P w K mg base "_law_pot" sd__law_pot 1 ps__law_pot m__law_pot) (z_len : mg "len" = none) (z_min : mg "min" = none) (z_max : mg "max" = none) (z_range : mg "range" = none) (z_all : mg "all" = none) : Cal P w K mg base "law" sd_law 11 ps_law m_law := cal_mk (N := N_law) D sc_law bp_law (by decide) (fun f cdv A outer s H E hgd hr => by
  have hu := hr.units
  exact (ss_one (s1_ret (b_all (by rfl) (by rfl) z_all (se_lc (own := [("k", 1)]) (by rfl) sc_law.nd (si_rng1 (by rfl) z_range (sps_cons (b_max2 (by rfl) (by rfl) z_max sz_int.p (b_min2 (by rfl) (by rfl) z_min sz_int.p (b_len (by rfl) z_len (nP 0 (by rfl) (.inr (.inl (by rfl))))).p).p).p sps_nil)) (by rfl) (by rfl) (by decide) (fun _ _ _ _ _ => (sg_name (pg_name (i := 1) sc_law.nd (by rfl) (.inl (by rfl))))) (fun _ _ _ _ _ => sts_nil) (fun _ _ _ _ _ => (cl c__law_right hr (by decide) hgd (by rfl) (szs_cons (clc c__law_pot hr (by decide) hgd (by rfl) (szs_cons (nZ 0 (by rfl) (.inr (.inl (by rfl)))) (szs_cons (nZ 1 (by rfl) (.inl (by rfl))) szs_nil))) szs_nil)))).p))))
theorem all_ok {P : Program} {w : World} {K : PySem.W.Frag} {mg : Str → Option Value} {fa : Addr} (hfa : mg "law" = some (.ref fa)) (D__law_runs : Df K mg "_law_runs" sd__law_runs) (D__law_taken : Df K mg "_law_taken" sd__law_taken) (D__law_same : Df K mg "_law_same" sd__law_same) (D__law_draw : Df K mg "_law_draw" sd__law_draw) (D__law_pick : Df K mg "_law_pick" sd__law_pick) (D_is_integer : Df K mg "is_integer" sd_is_integer) (D_is_count : Df K mg "is_count" sd_is_count) (D_is_small : Df K mg "is_small" sd_is_small) (D_day_is_right : Df K mg "day_is_right" sd_day_is_right) (D_feed_is_right : Df K mg "feed_is_right" sd_feed_is_right) (D_check_feed : Df K mg "check_feed" sd_check_feed) (D_steps_of : Df K mg "steps_of" sd_steps_of) (D_is_too_much : Df K mg "is_too_much" sd_is_too_much) (D_first_stretch_of : Df K mg "first_stretch_of" sd_first_stretch_of) (D_had_of : Df K mg "had_of" sd_had_of) (D_least_row : Df K mg "least_row" sd_least_row) (D_first_run : Df K mg "first_run" sd_first_run) (D__law_ends : Df K mg "_law_ends" sd__law_ends) (D_check_run_there : Df K mg "check_run_there" sd_check_run_there) (D_greatest_row : Df K mg "greatest_row" sd_greatest_row) (D_greatest_run : Df K mg "greatest_run" sd_greatest_run) (D_takes_of : Df K mg "takes_of" sd_takes_of) (D_forced : Df K mg "forced" sd_forced) (D_totals : Df K mg "totals" sd_totals) (D__law_stores : Df K mg "_law_stores" sd__law_stores) (D_is_position : Df K mg "is_position" sd_is_position) (D_check_day : Df K mg "check_day" sd_check_day) (D_stores_there : Df K mg "stores_there" sd_stores_there) (D_takes : Df K mg "takes" sd_takes) (D__law_one_right : Df K mg "_law_one_right" sd__law_one_right) (D__law_feed : Df K mg "_law_feed" sd__law_feed) (D__law_right : Df K mg "_law_right" sd__law_right) (D__law_pot : Df K mg "_law_pot" sd__law_pot) (D_law : Df K mg "law" sd_law) (z_range : mg "range" = none) (z_len : mg "len" = none) (z_sum : mg "sum" = none) (z_isinstance : mg "isinstance" = none) (z_tuple : mg "tuple" = none) (z_list : mg "list" = none) (z_zip : mg "zip" = none) (z_all : mg "all" = none) (z_str : mg "str" = none) (z_bool : mg "bool" = none) (z_int : mg "int" = none) (z_divmod : mg "divmod" = none) (z_enumerate : mg "enumerate" = none) (z_max : mg "max" = none) (z_min : mg "min" = none) (z_repr : mg "repr" = none) (z_sorted : mg "sorted" = none) (z_set : mg "set" = none) (z_abs : mg "abs" = none) (g_MOST_ROOM : ∃ t, mg "MOST_ROOM" = some (.int 999 t)) (g_MOST_DAYS : ∃ t, mg "MOST_DAYS" = some (.int 8 t)) (g_KINDS : Gd K mg "KINDS" [.str "little", .str "much"]) :
    ∃ fd : FuncData, (∀ (s : Shared) (u : Value), BindsTo s fd ⟨[u], []⟩ [("script", u)]) ∧ ∀ base : Heap, K.In base → base.Ns mainGlobals mg → FnG P w K mg base 11 fa fd ["script"] (spM K m_law) := by
  refine law_end hfa D_law bp_law fun base _ _ => ?_
  have c__law_runs := ok__law_runs (P := P) (w := w) (base := base) D__law_runs z_range
  have c__law_taken := ok__law_taken (P := P) (w := w) (base := base) D__law_taken z_len z_range z_sum
  have c__law_same := ok__law_same (P := P) (w := w) (base := base) D__law_same z_isinstance z_tuple z_list z_zip z_all z_len z_str z_bool z_int
  have c__law_draw := ok__law_draw (P := P) (w := w) (base := base) D__law_draw z_divmod z_int
  have c__law_pick := ok__law_pick (P := P) (w := w) (base := base) D__law_pick c__law_draw z_len
  have c_is_integer := ok_is_integer (P := P) (w := w) (base := base) D_is_integer z_isinstance z_bool z_int
  have c_is_count := ok_is_count (P := P) (w := w) (base := base) D_is_count c_is_integer
  have c_is_small := ok_is_small (P := P) (w := w) (base := base) D_is_small c_is_count g_MOST_ROOM
  have c_day_is_right := ok_day_is_right (P := P) (w := w) (base := base) D_day_is_right c_is_small z_all z_len z_isinstance z_tuple
  have c_feed_is_right := ok_feed_is_right (P := P) (w := w) (base := base) D_feed_is_right c_is_small c_day_is_right z_isinstance z_str z_len z_tuple z_all g_MOST_DAYS
  have c_check_feed := ok_check_feed (P := P) (w := w) (base := base) D_check_feed c_feed_is_right
  have c_steps_of := ok_steps_of (P := P) (w := w) (base := base) D_steps_of z_zip
  have c_is_too_much := ok_is_too_much (P := P) (w := w) (base := base) D_is_too_much z_sum
  have c_first_stretch_of := ok_first_stretch_of (P := P) (w := w) (base := base) D_first_stretch_of c_is_too_much z_len z_range g_KINDS
  have c_had_of := ok_had_of (P := P) (w := w) (base := base) D_had_of 
  have c_least_row := ok_least_row (P := P) (w := w) (base := base) D_least_row c_had_of z_enumerate z_max z_len z_range
  have c_first_run := ok_first_run (P := P) (w := w) (base := base) D_first_run c_check_feed c_first_stretch_of c_steps_of c_least_row
  have c__law_ends := ok__law_ends (P := P) (w := w) (base := base) D__law_ends z_max z_min
  have c_check_run_there := ok_check_run_there (P := P) (w := w) (base := base) D_check_run_there c_first_stretch_of
  have c_greatest_row := ok_greatest_row (P := P) (w := w) (base := base) D_greatest_row c_had_of z_enumerate z_min z_len z_range
  have c_greatest_run := ok_greatest_run (P := P) (w := w) (base := base) D_greatest_run c_check_feed c_check_run_there c_steps_of c_greatest_row
  have c_takes_of := ok_takes_of (P := P) (w := w) (base := base) D_takes_of c_greatest_row c_least_row z_min z_max
  have c_forced := ok_forced (P := P) (w := w) (base := base) D_forced c_check_feed c_check_run_there c_takes_of z_len z_range z_enumerate z_tuple
  have c_totals := ok_totals (P := P) (w := w) (base := base) D_totals c_check_feed c_check_run_there c_greatest_row c_least_row
  have c__law_stores := ok__law_stores (P := P) (w := w) (base := base) D__law_stores z_zip
  have c_is_position := ok_is_position (P := P) (w := w) (base := base) D_is_position c_is_count
  have c_check_day := ok_check_day (P := P) (w := w) (base := base) D_check_day c_check_feed c_is_position z_len
  have c_stores_there := ok_stores_there (P := P) (w := w) (base := base) D_stores_there c_check_day c_check_run_there c_had_of c_least_row c_greatest_row
  have c_takes := ok_takes (P := P) (w := w) (base := base) D_takes c_check_day c_check_run_there c_takes_of
  have c__law_one_right := ok__law_one_right (P := P) (w := w) (base := base) D__law_one_right c__law_runs c_first_run c__law_taken c__law_same c_greatest_run c__law_pick c_totals c__law_stores c__law_ends c_takes c_stores_there c_forced z_repr z_len z_range z_min z_max z_zip z_sorted z_set z_list z_tuple
  have c__law_feed := ok__law_feed (P := P) (w := w) (base := base) D__law_feed c__law_draw c__law_pick z_range z_tuple
  have c__law_right := ok__law_right (P := P) (w := w) (base := base) D__law_right c__law_one_right c__law_feed c__law_pick z_range z_all
  have c__law_pot := ok__law_pot (P := P) (w := w) (base := base) D__law_pot z_len z_abs z_int z_max
  have c_law := ok_law (P := P) (w := w) (base := base) D_law c__law_right c__law_pot z_len z_min z_max z_range z_all
  exact c_law
end Pv.K64

/-! # Fd1 -/
set_option linter.all false
/-! feeds: a run of days is possible just when no stretch of days is too little or too much (plain mathematics) -/
namespace Pv.Feeds
structure Day where
  b : Int
  lo : Int
  hi : Int
def sb (ds : List Day) : Int := (ds.map Day.b).sum
def sl (ds : List Day) : Int := (ds.map Day.lo).sum
def sh (ds : List Day) : Int := (ds.map Day.hi).sum
/-- the least and the greatest store, day by day -/
def can (R : Int) : Int → Int → List Day → Bool
  | _, _, [] => true
  | L, H, d :: ds => if max 0 (L + d.b - d.hi) > min R (H + d.b - d.lo) then false else can R (max 0 (L + d.b - d.hi)) (min R (H + d.b - d.lo)) ds
/-- no stretch that begins on the first day goes wrong: from a store of L to H -/
def Pre (R L H : Int) (ds : List Day) : Prop := ∀ e, e < ds.length → sl (ds.take (e + 1)) ≤ sb (ds.take (e + 1)) + H ∧ sb (ds.take (e + 1)) + L ≤ R + sh (ds.take (e + 1))
/-- no stretch goes wrong -/
def Fit (R L H : Int) (ds : List Day) : Prop := Pre R L H ds ∧ ∀ k, 1 ≤ k → Pre R 0 R (ds.drop k)
theorem pre_cons {R L H : Int} {d : Day} {ds : List Day} : Pre R L H (d :: ds) ↔ (d.lo ≤ d.b + H ∧ d.b + L ≤ R + d.hi) ∧ Pre R (L + d.b - d.hi) (H + d.b - d.lo) ds := by
  constructor
  · intro h
    refine ⟨by have := h 0 (by simp); simpa [sl, sb, sh] using this, fun e he => ?_⟩
    have := h (e + 1) (by simpa using he)
    simp [sl, sb, sh] at this ⊢
    omega
  · rintro ⟨h1, h2⟩ e he
    cases e with
    | zero => simpa [sl, sb, sh] using h1
    | succ e =>
      have := h2 e (by simpa using he)
      simp [sl, sb, sh] at this ⊢
      omega
theorem pre_both {R L H L2 H2 : Int} {ds : List Day} : (Pre R L H ds ∧ Pre R L2 H2 ds) ↔ Pre R (max L L2) (min H H2) ds := by
  constructor
  · rintro ⟨h1, h2⟩ e he
    have a := h1 e he
    have b := h2 e he
    omega
  · intro h
    refine ⟨fun e he => ?_, fun e he => ?_⟩
    · have := h e he; omega
    · have := h e he; omega
theorem fit_cons {R L H : Int} {d : Day} {ds : List Day} : Fit R L H (d :: ds) ↔ (d.lo ≤ d.b + H ∧ d.b + L ≤ R + d.hi) ∧ Fit R (max 0 (L + d.b - d.hi)) (min R (H + d.b - d.lo)) ds := by
  unfold Fit
  rw [pre_cons]
  constructor
  · rintro ⟨⟨h1, h2⟩, h3⟩
    refine ⟨h1, pre_both.mp ⟨by have := h3 1 (by omega); simpa using this, h2⟩, fun k hk => ?_⟩
    have := h3 (k + 1) (by omega)
    simpa using this
  · rintro ⟨h1, h2, h3⟩
    obtain ⟨h4, h5⟩ := pre_both.mpr h2
    refine ⟨⟨h1, h5⟩, fun k hk => ?_⟩
    match k, hk with
    | 1, _ => simpa using h4
    | k + 2, _ => have := h3 (k + 1) (by omega); simpa using this
theorem can_fit {R : Int} (hR : 0 ≤ R) : ∀ (ds : List Day) (L H : Int), 0 ≤ L → L ≤ H → H ≤ R → (∀ d ∈ ds, d.lo ≤ d.hi) → (can R L H ds = true ↔ Fit R L H ds)
  | [], L, H, _, _, _, _ => by simp [can, Fit, Pre]
  | d :: ds, L, H, h0, h1, h2, hd => by
    have hdl := hd d List.mem_cons_self
    rw [fit_cons, can]
    by_cases hv : max 0 (L + d.b - d.hi) > min R (H + d.b - d.lo)
    · rw [if_pos hv]
      constructor
      · intro z; cases z
      · rintro ⟨h3, _⟩; omega
    · rw [if_neg hv, can_fit hR ds _ _ (by omega) (by omega) (by omega) fun e he => hd e (List.mem_cons_of_mem _ he)]
      constructor
      · intro h; exact ⟨by omega, h⟩
      · exact fun h => h.2
/-- ts is a run from the store s -/
def Rn (R : Int) : Int → List Day → List Int → Prop
  | _, [], [] => True
  | s, d :: ds, t :: ts => (d.lo ≤ t ∧ t ≤ d.hi) ∧ (0 ≤ s + d.b - t ∧ s + d.b - t ≤ R) ∧ Rn R (s + d.b - t) ds ts
  | _, _, _ => False
theorem can_run {R : Int} (hR : 0 ≤ R) : ∀ (ds : List Day) (L H : Int), L ≤ H → (∀ d ∈ ds, d.lo ≤ d.hi) → (can R L H ds = true ↔ ∃ s ts, L ≤ s ∧ s ≤ H ∧ Rn R s ds ts)
  | [], L, H, h, _ => by
    simp only [can, true_iff]
    exact ⟨L, [], Int.le_refl _, h, trivial⟩
  | d :: ds, L, H, h, hd => by
    have hdl := hd d List.mem_cons_self
    rw [can]
    by_cases hv : max 0 (L + d.b - d.hi) > min R (H + d.b - d.lo)
    · rw [if_pos hv]
      constructor
      · intro z; cases z
      · rintro ⟨s, ts, h1, h2, h3⟩
        cases ts with
        | nil => exact h3.elim
        | cons t ts =>
          obtain ⟨⟨a, b⟩, ⟨c, e⟩, _⟩ := h3
          omega
    · rw [if_neg hv, can_run hR ds _ _ (by omega) fun e he => hd e (List.mem_cons_of_mem _ he)]
      constructor
      · rintro ⟨s, ts, h1, h2, h3⟩
        -- a store and a take that give s
        have hs0 : ∃ s0 t, L ≤ s0 ∧ s0 ≤ H ∧ d.lo ≤ t ∧ t ≤ d.hi ∧ s0 + d.b - t = s := by
          by_cases q : s ≤ L + d.b - d.lo
          · exact ⟨L, L + d.b - s, by omega, by omega, by omega, by omega, by omega⟩
          · exact ⟨s - d.b + d.lo, d.lo, by omega, by omega, by omega, by omega, by omega⟩
        obtain ⟨s0, t, a, b, c, e, f⟩ := hs0
        refine ⟨s0, t :: ts, a, b, ⟨c, e⟩, ⟨by omega, by omega⟩, ?_⟩
        rw [f]
        exact h3
      · rintro ⟨s, ts, h1, h2, h3⟩
        cases ts with
        | nil => exact h3.elim
        | cons t ts =>
          obtain ⟨⟨a, b⟩, ⟨c, e⟩, f⟩ := h3
          exact ⟨s + d.b - t, ts, by omega, by omega, f⟩
end Pv.Feeds

/-! # Fd2 -/
set_option linter.all false
/-! feeds: stretches, narrowed days, all runs -/
namespace Pv.Feeds
/-- the days from b to e -/
def cutD (ds : List Day) (b e : Nat) : List Day := (ds.drop b).take (e + 1 - b)
def isLittle (R F : Int) (ds : List Day) (b e : Nat) : Bool := decide (sl (cutD ds b e) > sb (cutD ds b e) + if b = 0 then F else R)
def isMuch (R F : Int) (ds : List Day) (b e : Nat) : Bool := decide (sb (cutD ds b e) + (if b = 0 then F else 0) > R + sh (cutD ds b e))
/-- no stretch goes wrong -/
def Good (R F : Int) (ds : List Day) : Prop := ∀ b e, b ≤ e → e < ds.length → isLittle R F ds b e = false ∧ isMuch R F ds b e = false
theorem good_fit {R F : Int} {ds : List Day} : Good R F ds ↔ Fit R F F ds := by
  constructor
  · intro h
    refine ⟨fun e he => ?_, fun k hk e he => ?_⟩
    · have := h 0 e (by omega) he
      simpa [isLittle, isMuch, cutD] using this
    · rw [List.length_drop] at he
      have := h k (k + e) (by omega) (by omega)
      have k0 : ¬ k = 0 := by omega
      simpa [isLittle, isMuch, cutD, k0, show k + e + 1 - k = e + 1 by omega] using this
  · rintro ⟨h1, h2⟩ b e hbe he
    by_cases b0 : b = 0
    · subst b0
      have := h1 e he
      simpa [isLittle, isMuch, cutD] using this
    · have := h2 b (by omega) (e - b) (by rw [List.length_drop]; omega)
      simpa [isLittle, isMuch, cutD, b0, show e - b + 1 = e + 1 - b by omega] using this
theorem can_good {R F : Int} {ds : List Day} (h0 : 0 ≤ F) (h1 : F ≤ R) (hd : ∀ d ∈ ds, d.lo ≤ d.hi) : can R F F ds = true ↔ Good R F ds := by
  rw [good_fit]; exact can_fit (by omega) ds F F h0 (Int.le_refl _) h1 hd
theorem can_rn {R F : Int} {ds : List Day} (h1 : 0 ≤ R) (hd : ∀ d ∈ ds, d.lo ≤ d.hi) : can R F F ds = true ↔ ∃ ts, Rn R F ds ts := by
  rw [can_run h1 ds F F (Int.le_refl _) hd]
  constructor
  · rintro ⟨s, ts, a, b, c⟩
    have : s = F := by omega
    subst this
    exact ⟨ts, c⟩
  · rintro ⟨ts, c⟩
    exact ⟨F, ts, Int.le_refl _, Int.le_refl _, c⟩
/-- a day with takes from a to z only -/
def narrow (a z : Int) (d : Day) : Day := ⟨d.b, max d.lo a, min d.hi z⟩
theorem rn_narrow {R a z : Int} : ∀ (ds : List Day) (s : Int) (ts : List Int), Rn R s (ds.map (narrow a z)) ts ↔ Rn R s ds ts ∧ ∀ t ∈ ts, a ≤ t ∧ t ≤ z
  | [], s, [] => by simp [Rn]
  | [], s, t :: ts => by simp [Rn]
  | d :: ds, s, [] => by simp [Rn]
  | d :: ds, s, t :: ts => by
    have ih := rn_narrow (R := R) (a := a) (z := z) ds (s + d.b - t) ts
    simp only [List.map_cons, Rn, narrow, List.mem_cons, forall_eq_or_imp]
    rw [ih]
    constructor
    · rintro ⟨⟨p, q⟩, r, u, v⟩
      exact ⟨⟨⟨by omega, by omega⟩, r, u⟩, ⟨by omega, by omega⟩, v⟩
    · rintro ⟨⟨⟨p, q⟩, r, u⟩, ⟨x, y⟩, v⟩
      exact ⟨⟨by omega, by omega⟩, r, u, v⟩
theorem rn_len {R : Int} : ∀ {ds : List Day} {s : Int} {ts : List Int}, Rn R s ds ts → ts.length = ds.length
  | [], s, [], _ => rfl
  | [], s, t :: ts, h => h.elim
  | d :: ds, s, [], h => h.elim
  | d :: ds, s, t :: ts, h => by simp [rn_len h.2.2]
theorem rn_rng {R : Int} {lo hi : Int} : ∀ {ds : List Day} {s : Int} {ts : List Int}, (∀ d ∈ ds, lo ≤ d.lo ∧ d.hi ≤ hi) → Rn R s ds ts → ∀ t ∈ ts, lo ≤ t ∧ t ≤ hi
  | [], s, [], _, _ => fun t h => nomatch h
  | [], s, t :: ts, _, h => h.elim
  | d :: ds, s, [], _, h => h.elim
  | d :: ds, s, t :: ts, hd, h => fun u hu => by
    have hx := hd d List.mem_cons_self
    rcases List.mem_cons.mp hu with rfl | hu
    · have := h.1; omega
    · exact rn_rng (fun e he => hd e (List.mem_cons_of_mem _ he)) h.2.2 u hu
/-- more room and wider days -/
theorem rn_mono {R R2 : Int} (hR : R ≤ R2) : ∀ {ds es : List Day} {s : Int} {ts : List Int}, ds.length = es.length → (∀ (i : Nat) (d e : Day), ds[i]? = some d → es[i]? = some e → e.b = d.b ∧ e.lo ≤ d.lo ∧ d.hi ≤ e.hi) → Rn R s ds ts → Rn R2 s es ts
  | [], [], s, [], _, _, _ => trivial
  | [], [], s, t :: ts, _, _, h => h.elim
  | [], e :: es, s, ts, h, _, _ => by simp at h
  | d :: ds, [], s, ts, h, _, _ => by simp at h
  | d :: ds, e :: es, s, [], _, _, h => h.elim
  | d :: ds, e :: es, s, t :: ts, hl, hd, h => by
    obtain ⟨h1, h2, h3⟩ := h
    obtain ⟨a, b, c⟩ := hd 0 d e rfl rfl
    refine ⟨⟨by omega, by omega⟩, ⟨by omega, by omega⟩, ?_⟩
    rw [a]
    exact rn_mono hR (by simpa using hl) (fun i d' e' p q => hd (i + 1) d' e' (by simpa using p) (by simpa using q)) h3
/-- the takes of one day -/
def takes (R : Int) (d : Day) (p : List Int × Int) : List (List Int × Int) := (((List.range (d.hi + 1 - d.lo).toNat).map fun i : Nat => d.lo + (i : Int)).filter fun t => decide (0 ≤ p.2 + d.b - t ∧ p.2 + d.b - t ≤ R)).map fun t => (p.1 ++ [t], p.2 + d.b - t)
def stepR (R : Int) (d : Day) (rs : List (List Int × Int)) : List (List Int × Int) := rs.flatMap (takes R d)
def runsF (R : Int) (rs : List (List Int × Int)) : List Day → List (List Int × Int)
  | [] => rs
  | d :: ds => runsF R (stepR R d rs) ds
theorem runsF_snoc {R : Int} {d : Day} : ∀ (ds : List Day) (rs : List (List Int × Int)), runsF R rs (ds ++ [d]) = stepR R d (runsF R rs ds)
  | [], rs => rfl
  | e :: ds, rs => by simp only [List.cons_append, runsF]; exact runsF_snoc ds _
theorem mem_takes {R : Int} {d : Day} {p q : List Int × Int} : q ∈ takes R d p ↔ ∃ t, (d.lo ≤ t ∧ t ≤ d.hi) ∧ (0 ≤ p.2 + d.b - t ∧ p.2 + d.b - t ≤ R) ∧ q = (p.1 ++ [t], p.2 + d.b - t) := by
  unfold takes
  simp only [List.mem_map, List.mem_filter, List.mem_range, decide_eq_true_eq]
  constructor
  · rintro ⟨t, ⟨⟨i, hi, rfl⟩, h⟩, rfl⟩
    exact ⟨_, ⟨by omega, by omega⟩, h, rfl⟩
  · rintro ⟨t, ⟨a, b⟩, h, rfl⟩
    exact ⟨t, ⟨⟨(t - d.lo).toNat, by omega, by omega⟩, h⟩, rfl⟩
theorem mem_runsF {R : Int} : ∀ (ds : List Day) (rs : List (List Int × Int)) (r : List Int), (∃ s, (r, s) ∈ runsF R rs ds) ↔ ∃ p ∈ rs, ∃ ts, r = p.1 ++ ts ∧ Rn R p.2 ds ts
  | [], rs, r => by
    constructor
    · rintro ⟨s, h⟩
      exact ⟨(r, s), h, [], by simp, trivial⟩
    · rintro ⟨p, hp, ts, rfl, h⟩
      cases ts with
      | nil => exact ⟨p.2, by simpa [runsF] using hp⟩
      | cons t ts => exact h.elim
  | d :: ds, rs, r => by
    rw [runsF, mem_runsF ds]
    constructor
    · rintro ⟨q, hq, ts, rfl, h⟩
      obtain ⟨p, hp, hq⟩ := List.mem_flatMap.mp hq
      obtain ⟨t, a, b, rfl⟩ := mem_takes.mp hq
      exact ⟨p, hp, t :: ts, by simp, a, b, h⟩
    · rintro ⟨p, hp, ts, rfl, h⟩
      cases ts with
      | nil => exact h.elim
      | cons t ts => exact ⟨(p.1 ++ [t], p.2 + d.b - t), List.mem_flatMap.mpr ⟨p, hp, mem_takes.mpr ⟨t, h.1, h.2.1, rfl⟩⟩, ts, by simp, h.2.2⟩
def runsOf (R F : Int) (ds : List Day) : List (List Int) := (runsF R [([], F)] ds).map Prod.fst
theorem mem_runs {R F : Int} {ds : List Day} {r : List Int} : r ∈ runsOf R F ds ↔ Rn R F ds r := by
  unfold runsOf
  rw [List.mem_map]
  constructor
  · rintro ⟨⟨r, s⟩, h, rfl⟩
    obtain ⟨p, hp, ts, e, h⟩ := (mem_runsF ds _ r).mp ⟨s, h⟩
    have : p = ([], F) := by simpa using hp
    subst this
    have e : r = ts := by simpa using e
    subst e
    exact h
  · intro h
    obtain ⟨s, hs⟩ := (mem_runsF ds [([], F)] r).mpr ⟨_, List.mem_cons_self, r, by simp, h⟩
    exact ⟨_, hs, rfl⟩
theorem stepR_len {R : Int} {d : Day} {k : Nat} (h : d.hi + 1 - d.lo ≤ k) (rs : List (List Int × Int)) : (stepR R d rs).length ≤ rs.length * k := by
  unfold stepR
  induction rs with
  | nil => simp
  | cons p rs ih =>
    rw [List.flatMap_cons, List.length_append, List.length_cons, Nat.succ_mul]
    have : (takes R d p).length ≤ k := by
      unfold takes
      rw [List.length_map]
      refine Nat.le_trans (List.length_filter_le _ _) ?_
      simp
      omega
    omega
theorem runsF_len {R : Int} {k : Nat} : ∀ (ds : List Day) (rs : List (List Int × Int)), (∀ d ∈ ds, d.hi + 1 - d.lo ≤ k) → (runsF R rs ds).length ≤ rs.length * k ^ ds.length
  | [], rs, _ => by simp [runsF]
  | d :: ds, rs, h => by
    rw [runsF, List.length_cons, Nat.pow_succ]
    refine Nat.le_trans (runsF_len ds _ fun e he => h e (List.mem_cons_of_mem _ he)) ?_
    have := Nat.mul_le_mul_right (k ^ ds.length) (stepR_len (R := R) (h d List.mem_cons_self) rs)
    calc _ ≤ _ := this
      _ = _ := by rw [Nat.mul_assoc, Nat.mul_comm k]
end Pv.Feeds

/-! # Fd3 -/
set_option linter.all false
/-! feeds: the least room, first stores, greatest and least values -/
namespace Pv.Feeds
def zr (a b : Int) : List Int := (List.range (b - a).toNat).map fun i : Nat => a + (i : Int)
theorem mem_zr {a b t : Int} : t ∈ zr a b ↔ a ≤ t ∧ t < b := by
  unfold zr
  simp only [List.mem_map, List.mem_range]
  constructor
  · rintro ⟨i, hi, rfl⟩; omega
  · rintro ⟨h1, h2⟩; exact ⟨(t - a).toNat, by omega, by omega⟩
theorem zr_app {a b c : Int} (h1 : a ≤ b) (h2 : b ≤ c) : zr a c = zr a b ++ zr b c := by
  unfold zr
  rw [show (c - a).toNat = (b - a).toNat + (c - b).toNat by omega, List.range_add, List.map_append, List.map_map]
  refine congrArg _ (List.map_congr_left fun i _ => ?_)
  simp only [Function.comp]
  omega
theorem zr_nil {a b : Int} (h : b ≤ a) : zr a b = [] := by
  unfold zr
  rw [show (b - a).toNat = 0 by omega]; rfl
theorem zr_cons {a b : Int} (h : a < b) : zr a b = a :: zr (a + 1) b := by
  rw [zr_app (b := a + 1) (by omega) (by omega)]
  have : zr a (a + 1) = [a] := by
    unfold zr
    rw [show (a + 1 - a).toNat = 1 by omega]
    simp
  rw [this]; rfl
theorem zr_last {a b : Int} (h : a < b) : (zr a b).getLast? = some (b - 1) := by
  rw [zr_app (b := b - 1) (by omega) (by omega)]
  have : zr (b - 1) b = [b - 1] := by
    unfold zr
    rw [show (b - (b - 1)).toNat = 1 by omega]
    simp
  rw [this]; simp
theorem zr_filter {a b x y : Int} (h1 : a ≤ x) (h2 : x ≤ y + 1) (h3 : y < b) {p : Int → Bool} (hp : ∀ t, a ≤ t → t < b → (p t = true ↔ x ≤ t ∧ t ≤ y)) : (zr a b).filter p = zr x (y + 1) := by
  rw [zr_app (a := a) (b := x) (c := b) h1 (by omega), zr_app (a := x) (b := y + 1) (c := b) h2 (by omega), List.filter_append, List.filter_append]
  rw [List.filter_eq_nil_iff.mpr fun t ht => ?_, List.filter_eq_self.mpr fun t ht => ?_, List.filter_eq_nil_iff.mpr fun t ht => ?_, List.nil_append, List.append_nil]
  · have := mem_zr.mp ht
    rw [hp t (by omega) (by omega)]; omega
  · have := mem_zr.mp ht
    rw [hp t (by omega) (by omega)]; omega
  · have := mem_zr.mp ht
    rw [hp t (by omega) (by omega)]; omega
def stretches (n : Nat) : List (Nat × Nat) := (List.range n).flatMap fun b => (List.range (n - b)).map fun i => (b, b + i)
theorem mem_stretches {n : Nat} {p : Nat × Nat} : p ∈ stretches n ↔ p.1 ≤ p.2 ∧ p.2 < n := by
  obtain ⟨b, e⟩ := p
  unfold stretches
  simp only [List.mem_flatMap, List.mem_range, List.mem_map, Prod.mk.injEq]
  constructor
  · rintro ⟨b', hb, i, hi, rfl, rfl⟩
    omega
  · rintro ⟨h1, h2⟩
    exact ⟨b, by omega, e - b, by omega, rfl, by omega⟩
section
variable (R F : Int) (ds : List Day)
/-- the room that a stretch wants -/
def roomOk (r : Int) (p : Nat × Nat) : Prop := ((if p.1 = 0 then F else 0) + sb (cutD ds p.1 p.2) - sh (cutD ds p.1 p.2) ≤ r) ∧ (0 < p.1 → sl (cutD ds p.1 p.2) - sb (cutD ds p.1 p.2) ≤ r)
def roomF : Int → List (Nat × Nat) → Option Int
  | m, [] => some m
  | m, p :: ps => if p.1 = 0 ∧ isLittle R F ds 0 p.2 = true then none else roomF (max (max m ((if p.1 = 0 then F else 0) + sb (cutD ds p.1 p.2) - sh (cutD ds p.1 p.2))) (if p.1 > 0 then sl (cutD ds p.1 p.2) - sb (cutD ds p.1 p.2) else 0)) ps
end
section
variable {R F : Int} {ds : List Day}
theorem little0 {R2 : Int} {e : Nat} : isLittle R F ds 0 e = isLittle R2 F ds 0 e := by simp [isLittle]
theorem roomF_none : ∀ {ps : List (Nat × Nat)} {m : Int}, roomF R F ds m ps = none ↔ ∃ p ∈ ps, p.1 = 0 ∧ isLittle R F ds 0 p.2 = true
  | [], m => by simp [roomF]
  | p :: ps, m => by
    unfold roomF
    by_cases h : p.1 = 0 ∧ isLittle R F ds 0 p.2 = true
    · rw [if_pos h]
      exact ⟨fun _ => ⟨p, List.mem_cons_self, h⟩, fun _ => rfl⟩
    · rw [if_neg h, roomF_none]
      constructor
      · rintro ⟨q, hq, h2⟩; exact ⟨q, List.mem_cons_of_mem _ hq, h2⟩
      · rintro ⟨q, hq, h2⟩
        rcases List.mem_cons.mp hq with rfl | hq
        · exact absurd h2 h
        · exact ⟨q, hq, h2⟩
theorem roomF_some : ∀ {ps : List (Nat × Nat)} {m m2 : Int}, roomF R F ds m ps = some m2 → m ≤ m2 ∧ ∀ r, 0 ≤ r → (m2 ≤ r ↔ m ≤ r ∧ ∀ p ∈ ps, roomOk F ds r p)
  | [], m, m2, h => by
    simp only [roomF, Option.some.injEq] at h
    subst h
    exact ⟨Int.le_refl _, fun r _ => ⟨fun h => ⟨h, fun p hp => nomatch hp⟩, fun h => h.1⟩⟩
  | p :: ps, m, m2, h => by
    unfold roomF at h
    split at h
    · cases h
    · obtain ⟨h1, h2⟩ := roomF_some h
      refine ⟨by omega, fun r hr => ?_⟩
      rw [h2 r hr]
      simp only [List.mem_cons, forall_eq_or_imp, roomOk]
      constructor
      · rintro ⟨a, b⟩
        refine ⟨by omega, ⟨by omega, fun h0 => ?_⟩, b⟩
        rw [if_pos h0] at a
        omega
      · rintro ⟨a, ⟨b, c⟩, d⟩
        refine ⟨?_, d⟩
        by_cases h0 : p.1 > 0
        · rw [if_pos h0]; have := c h0; omega
        · rw [if_neg h0]; omega
theorem good_room : Good R F ds ↔ (∀ e, e < ds.length → isLittle 0 F ds 0 e = false) ∧ ∀ p ∈ stretches ds.length, roomOk F ds R p := by
  constructor
  · intro h
    refine ⟨fun e he => by rw [little0 (R2 := R)]; exact (h 0 e (by omega) he).1, fun p hp => ?_⟩
    have hp := mem_stretches.mp hp
    obtain ⟨a, b⟩ := h p.1 p.2 hp.1 hp.2
    simp only [isLittle, isMuch, decide_eq_false_iff_not] at a b
    refine ⟨by omega, fun h0 => ?_⟩
    rw [if_neg (by omega)] at a
    omega
  · rintro ⟨h1, h2⟩ b e hb he
    obtain ⟨a, c⟩ := h2 (b, e) (mem_stretches.mpr ⟨hb, he⟩)
    dsimp only at a c
    constructor
    · by_cases b0 : b = 0
      · subst b0; rw [little0 (R2 := 0)]; exact h1 e he
      · simp only [isLittle, decide_eq_false_iff_not, if_neg b0]
        have := c (by omega)
        omega
    · simp only [isMuch, decide_eq_false_iff_not]
      omega
variable (R F ds) in
def firstsF : Int → Int → List (Nat × Nat) → Option (Int × Int)
  | l, m, [] => if l ≤ m then some (l, m) else none
  | l, m, p :: ps => if p.1 = 0 then firstsF (max l (sl (cutD ds p.1 p.2) - sb (cutD ds p.1 p.2))) (min m (R + sh (cutD ds p.1 p.2) - sb (cutD ds p.1 p.2))) ps else if isLittle R F ds p.1 p.2 = true ∨ isMuch R F ds p.1 p.2 = true then none else firstsF l m ps
variable (R F ds) in
def firstOk (f : Int) (p : Nat × Nat) : Prop := if p.1 = 0 then sl (cutD ds p.1 p.2) - sb (cutD ds p.1 p.2) ≤ f ∧ f ≤ R + sh (cutD ds p.1 p.2) - sb (cutD ds p.1 p.2) else isLittle R F ds p.1 p.2 = false ∧ isMuch R F ds p.1 p.2 = false
theorem firstsF_le : ∀ {ps : List (Nat × Nat)} {l m x y : Int}, firstsF R F ds l m ps = some (x, y) → x ≤ y ∧ l ≤ x ∧ y ≤ m
  | [], l, m, x, y, h => by
    unfold firstsF at h
    split at h
    · cases h; omega
    · cases h
  | p :: ps, l, m, x, y, h => by
    unfold firstsF at h
    split at h
    · have := firstsF_le h; omega
    · split at h
      · cases h
      · exact firstsF_le h
theorem firstsF_iff {f : Int} : ∀ {ps : List (Nat × Nat)} {l m : Int}, (∃ x y, firstsF R F ds l m ps = some (x, y) ∧ x ≤ f ∧ f ≤ y) ↔ (l ≤ f ∧ f ≤ m) ∧ ∀ p ∈ ps, firstOk R F ds f p
  | [], l, m => by
    unfold firstsF
    constructor
    · rintro ⟨x, y, h, a, b⟩
      split at h
      · cases h; exact ⟨⟨a, b⟩, fun p hp => nomatch hp⟩
      · cases h
    · rintro ⟨⟨a, b⟩, _⟩
      rw [if_pos (by omega)]
      exact ⟨l, m, rfl, a, b⟩
  | p :: ps, l, m => by
    unfold firstsF
    simp only [List.mem_cons, forall_eq_or_imp]
    by_cases h0 : p.1 = 0
    · rw [if_pos h0, firstsF_iff]
      simp only [firstOk, if_pos h0]
      constructor
      · rintro ⟨⟨a, b⟩, c⟩; exact ⟨⟨by omega, by omega⟩, ⟨by omega, by omega⟩, c⟩
      · rintro ⟨⟨a, b⟩, ⟨c, d⟩, e⟩; exact ⟨⟨by omega, by omega⟩, e⟩
    · rw [if_neg h0]
      have e : firstOk R F ds f p ↔ isLittle R F ds p.1 p.2 = false ∧ isMuch R F ds p.1 p.2 = false := by unfold firstOk; rw [if_neg h0]
      rw [e]
      by_cases h : isLittle R F ds p.1 p.2 = true ∨ isMuch R F ds p.1 p.2 = true
      · rw [if_pos h]
        constructor
        · rintro ⟨x, y, h, _⟩; cases h
        · rintro ⟨_, ⟨a, b⟩, _⟩
          rw [a, b] at h
          simp at h
      · rw [if_neg h, firstsF_iff]
        constructor
        · rintro ⟨a, b⟩
          refine ⟨a, ⟨?_, ?_⟩, b⟩
          · cases hh : isLittle R F ds p.1 p.2
            · rfl
            · exact absurd (.inl hh) h
          · cases hh : isMuch R F ds p.1 p.2
            · rfl
            · exact absurd (.inr hh) h
        · rintro ⟨a, _, b⟩; exact ⟨a, b⟩
theorem good_first {f : Int} : Good R f ds ↔ ∀ p ∈ stretches ds.length, firstOk R F ds f p := by
  constructor
  · intro h p hp
    have hp := mem_stretches.mp hp
    have := h p.1 p.2 hp.1 hp.2
    unfold firstOk
    split
    · rename_i h0
      simp only [isLittle, isMuch, if_pos h0, decide_eq_false_iff_not] at this
      omega
    · rename_i h0
      simpa only [isLittle, isMuch, if_neg h0] using this
  · intro h b e hb he
    have := h (b, e) (mem_stretches.mpr ⟨hb, he⟩)
    unfold firstOk at this
    dsimp only at this
    split at this
    · rename_i h0
      simp only [isLittle, isMuch, if_pos h0, decide_eq_false_iff_not]
      omega
    · rename_i h0
      simpa only [isLittle, isMuch, if_neg h0] using this
end
/-- the greatest and the least of a list that is not empty -/
def lmax : List Int → Int
  | [] => 0
  | x :: r => r.foldl max x
def lmin : List Int → Int
  | [] => 0
  | x :: r => r.foldl min x
theorem foldl_max_ge : ∀ (r : List Int) (x : Int), x ≤ r.foldl max x ∧ (∀ t ∈ r, t ≤ r.foldl max x) ∧ (r.foldl max x = x ∨ r.foldl max x ∈ r)
  | [], x => ⟨Int.le_refl _, ⟨fun t h => (nomatch h), .inl rfl⟩⟩
  | y :: r, x => by
    obtain ⟨a, b, c⟩ := foldl_max_ge r (max x y)
    rw [List.foldl_cons]
    refine ⟨by omega, fun t ht => ?_, ?_⟩
    · rcases List.mem_cons.mp ht with rfl | ht
      · omega
      · exact b t ht
    · rcases c with c | c
      · rw [c]
        by_cases h : x ≤ y
        · exact .inr (by rw [show max x y = y by omega]; exact List.mem_cons_self)
        · exact .inl (by omega)
      · exact .inr (List.mem_cons_of_mem _ c)
theorem foldl_min_le : ∀ (r : List Int) (x : Int), r.foldl min x ≤ x ∧ (∀ t ∈ r, r.foldl min x ≤ t) ∧ (r.foldl min x = x ∨ r.foldl min x ∈ r)
  | [], x => ⟨Int.le_refl _, ⟨fun t h => (nomatch h), .inl rfl⟩⟩
  | y :: r, x => by
    obtain ⟨a, b, c⟩ := foldl_min_le r (min x y)
    rw [List.foldl_cons]
    refine ⟨by omega, fun t ht => ?_, ?_⟩
    · rcases List.mem_cons.mp ht with rfl | ht
      · omega
      · exact b t ht
    · rcases c with c | c
      · rw [c]
        by_cases h : y ≤ x
        · exact .inr (by rw [show min x y = y by omega]; exact List.mem_cons_self)
        · exact .inl (by omega)
      · exact .inr (List.mem_cons_of_mem _ c)
theorem lmax_spec {l : List Int} (h : l ≠ []) : lmax l ∈ l ∧ ∀ t ∈ l, t ≤ lmax l := by
  cases l with
  | nil => exact absurd rfl h
  | cons x r =>
    obtain ⟨a, b, c⟩ := foldl_max_ge r x
    refine ⟨?_, fun t ht => ?_⟩
    · rcases c with c | c
      · show r.foldl max x ∈ x :: r; rw [c]; exact List.mem_cons_self
      · exact List.mem_cons_of_mem _ c
    · rcases List.mem_cons.mp ht with rfl | ht
      · exact a
      · exact b t ht
theorem lmin_spec {l : List Int} (h : l ≠ []) : lmin l ∈ l ∧ ∀ t ∈ l, lmin l ≤ t := by
  cases l with
  | nil => exact absurd rfl h
  | cons x r =>
    obtain ⟨a, b, c⟩ := foldl_min_le r x
    refine ⟨?_, fun t ht => ?_⟩
    · rcases c with c | c
      · show r.foldl min x ∈ x :: r; rw [c]; exact List.mem_cons_self
      · exact List.mem_cons_of_mem _ c
    · rcases List.mem_cons.mp ht with rfl | ht
      · exact a
      · exact b t ht
theorem sum_le {m : Int} : ∀ (l : List Int), (∀ t ∈ l, t ≤ m) → l.sum ≤ m * l.length
  | [], _ => by simp
  | x :: r, h => by
    have := sum_le r fun t ht => h t (List.mem_cons_of_mem _ ht)
    have h0 := h x List.mem_cons_self
    rw [List.sum_cons, List.length_cons, Int.natCast_add, Int.mul_add]
    omega
theorem le_sum {m : Int} : ∀ (l : List Int), (∀ t ∈ l, m ≤ t) → m * l.length ≤ l.sum
  | [], _ => by simp
  | x :: r, h => by
    have := le_sum r fun t ht => h t (List.mem_cons_of_mem _ ht)
    have h0 := h x List.mem_cons_self
    rw [List.sum_cons, List.length_cons, Int.natCast_add, Int.mul_add]
    omega
end Pv.Feeds

/-! # Fd4 -/
set_option linter.all false
/-! feeds: the least row of sums, and the first run -/
namespace Pv.Feeds
def dA (ds : List Day) (j : Nat) : Day := ds.getD j ⟨0, 0, 0⟩
theorem dA_get {ds : List Day} {j : Nat} {d : Day} (h : ds[j]? = some d) : dA ds j = d := by
  unfold dA
  rw [List.getD_eq_getElem?_getD, h]; rfl
def had (F : Int) (ds : List Day) (j : Nat) : Int := F + sb (ds.take j)
theorem had_succ {F : Int} {ds : List Day} {j : Nat} (h : j < ds.length) : had F ds (j + 1) = had F ds j + (dA ds j).b := by
  unfold had sb
  rw [List.take_add_one, List.getElem?_eq_getElem h, dA_get (List.getElem?_eq_getElem h)]
  show F + ((ds.take j ++ [ds[j]]).map Day.b).sum = _
  rw [List.map_append, List.sum_append]
  simp only [List.map_cons, List.map_nil, List.sum_cons, List.sum_nil]
  omega
/-- the takes up to a day -/
def cum (r : List Int) (j : Nat) : Int := (r.take j).sum
theorem cum_succ {r : List Int} {j : Nat} (h : j < r.length) : cum r (j + 1) = cum r j + r.getD j 0 := by
  unfold cum
  rw [List.take_add_one, List.getElem?_eq_getElem h, List.getD_eq_getElem?_getD, List.getElem?_eq_getElem h]
  show (r.take j ++ [r[j]]).sum = _
  rw [List.sum_append]
  simp only [List.sum_cons, List.sum_nil, Option.getD_some]
  omega
theorem rn_iff {R : Int} : ∀ {ds : List Day} {s : Int} {ts : List Int}, Rn R s ds ts ↔ ts.length = ds.length ∧ ∀ j, j < ds.length → ((dA ds j).lo ≤ cum ts (j + 1) - cum ts j ∧ cum ts (j + 1) - cum ts j ≤ (dA ds j).hi) ∧ 0 ≤ had s ds (j + 1) - cum ts (j + 1) ∧ had s ds (j + 1) - cum ts (j + 1) ≤ R
  | [], s, [] => by simp [Rn]
  | [], s, t :: ts => by simp [Rn]
  | d :: ds, s, [] => by simp [Rn]
  | d :: ds, s, t :: ts => by
    rw [Rn, rn_iff (ds := ds)]
    have e0 : dA (d :: ds) 0 = d := rfl
    have e1 : ∀ j, dA (d :: ds) (j + 1) = dA ds j := fun j => rfl
    have c0 : cum (t :: ts) 0 = 0 := rfl
    have c1 : ∀ j, cum (t :: ts) (j + 1) = t + cum ts j := fun j => by simp [cum]
    have cz : cum ts 0 = 0 := rfl
    have h1 : ∀ j, had s (d :: ds) (j + 1) = s + d.b + sb (ds.take j) := fun j => by simp [had, sb]; omega
    have h2 : ∀ j, had (s + d.b - t) ds j = s + d.b - t + sb (ds.take j) := fun j => rfl
    have s0 : sb (ds.take 0) = 0 := rfl
    constructor
    · rintro ⟨⟨a, b⟩, ⟨c, e⟩, f, g⟩
      refine ⟨by simp [f], fun j hj => ?_⟩
      cases j with
      | zero =>
        have := h1 0
        have := c1 0
        rw [e0]
        refine ⟨⟨?_, ?_⟩, ?_, ?_⟩ <;> omega
      | succ j =>
        have := g j (by simpa using hj)
        rw [e1, c1, c1, h1]
        rw [h2] at this
        refine ⟨⟨?_, ?_⟩, ?_, ?_⟩ <;> omega
    · rintro ⟨f, g⟩
      have g0 := g 0 (by simp)
      rw [e0] at g0
      have a1 := h1 0
      have a2 := c1 0
      refine ⟨⟨by omega, by omega⟩, ⟨by omega, by omega⟩, by simpa using f, fun j hj => ?_⟩
      have := g (j + 1) (by simpa using hj)
      rw [e1, c1, c1, h1] at this
      rw [h2]
      refine ⟨⟨?_, ?_⟩, ?_, ?_⟩ <;> omega
section
variable (R F : Int) (ds : List Day)
/-- lower bounds, going on -/
def rowA : Nat → Int
  | 0 => 0
  | j + 1 => max (rowA j + (dA ds j).lo) (had F ds (j + 1) - R)
/-- going back, k days from the end -/
def rowB : Nat → Int
  | 0 => rowA R F ds ds.length
  | k + 1 => max (rowA R F ds (ds.length - (k + 1))) (rowB k - (dA ds (ds.length - (k + 1))).hi)
def rowC (j : Nat) : Int := rowB R F ds (ds.length - j)
def leastRun : List Int := (List.range ds.length).map fun j => rowC R F ds (j + 1) - rowC R F ds j
end
section
variable {R F : Int} {ds : List Day}
theorem rowC_last : rowC R F ds ds.length = rowA R F ds ds.length := by
  unfold rowC
  rw [Nat.sub_self]; rfl
theorem rowC_step {j : Nat} (h : j < ds.length) : rowC R F ds j = max (rowA R F ds j) (rowC R F ds (j + 1) - (dA ds j).hi) := by
  unfold rowC
  have e : ds.length - j = (ds.length - (j + 1)) + 1 := by omega
  rw [e, rowB]
  have e2 : ds.length - (ds.length - (j + 1) + 1) = j := by omega
  rw [e2]
theorem rowA_le {ts : List Int} (h : Rn R F ds ts) : ∀ j, j ≤ ds.length → rowA R F ds j ≤ cum ts j
  | 0, _ => Int.le_refl _
  | j + 1, hj => by
    have ih := rowA_le h j (by omega)
    have := (rn_iff.mp h).2 j hj
    rw [rowA]
    omega
theorem rowC_le {ts : List Int} (h : Rn R F ds ts) : ∀ k j, j + k = ds.length → rowC R F ds j ≤ cum ts j
  | 0, j, e => by
    have : j = ds.length := by omega
    subst this
    rw [rowC_last]
    exact rowA_le h _ (Nat.le_refl _)
  | k + 1, j, e => by
    have ih := rowC_le h k (j + 1) (by omega)
    have a := rowA_le h j (by omega)
    have := (rn_iff.mp h).2 j (by omega)
    rw [rowC_step (by omega)]
    omega
theorem rowA_leC : ∀ j, j ≤ ds.length → rowA R F ds j ≤ rowC R F ds j := fun j hj => by
  by_cases e : j = ds.length
  · subst e; rw [rowC_last]; exact Int.le_refl _
  · rw [rowC_step (by omega)]; omega
theorem rowC_0 {ts : List Int} (h : Rn R F ds ts) : rowC R F ds 0 = 0 := by
  have a := rowC_le h ds.length 0 (by omega)
  have b := rowA_leC (R := R) (F := F) (ds := ds) 0 (Nat.zero_le _)
  have : cum ts 0 = 0 := rfl
  have : rowA R F ds 0 = 0 := rfl
  omega
theorem cum_least {j : Nat} (hj : j ≤ ds.length) : cum (leastRun R F ds) j = rowC R F ds j - rowC R F ds 0 := by
  induction j with
  | zero => simp [cum]
  | succ j ih =>
    have hl : j < (leastRun R F ds).length := by simp [leastRun]; omega
    rw [cum_succ hl, ih (by omega)]
    have : (leastRun R F ds).getD j 0 = rowC R F ds (j + 1) - rowC R F ds j := by
      rw [List.getD_eq_getElem?_getD]
      simp [leastRun, show j < ds.length by omega]
    rw [this]
    omega
/-- the least row is a run -/
theorem least_rn (hd : ∀ d ∈ ds, d.lo ≤ d.hi) {ts : List Int} (h : Rn R F ds ts) : Rn R F ds (leastRun R F ds) := by
  rw [rn_iff]
  refine ⟨by simp [leastRun], fun j hj => ?_⟩
  have z := rowC_0 h
  rw [cum_least (by omega), cum_least (by omega), z]
  have st := rowC_step (R := R) (F := F) hj
  have a1 := rowA_leC (R := R) (F := F) (ds := ds) (j + 1) (by omega)
  have c1 := rowC_le h (ds.length - (j + 1)) (j + 1) (by omega)
  have q := (rn_iff.mp h).2 j hj
  have lh : (dA ds j).lo ≤ (dA ds j).hi := by
    have : dA ds j = ds[j] := dA_get (List.getElem?_eq_getElem hj)
    rw [this]
    exact hd _ (List.getElem_mem hj)
  have ra : rowA R F ds (j + 1) = max (rowA R F ds j + (dA ds j).lo) (had F ds (j + 1) - R) := rfl
  refine ⟨⟨?_, ?_⟩, ?_, ?_⟩ <;> omega
theorem least_le {ts : List Int} (h : Rn R F ds ts) {j : Nat} (hj : j ≤ ds.length) : cum (leastRun R F ds) j ≤ cum ts j := by
  rw [cum_least hj, rowC_0 h]
  have := rowC_le h (ds.length - j) j (by omega)
  omega
theorem runsF_app {R : Int} : ∀ (ds : List Day) (a b : List (List Int × Int)), runsF R (a ++ b) ds = runsF R a ds ++ runsF R b ds
  | [], a, b => rfl
  | d :: ds, a, b => by
    unfold runsF stepR
    rw [List.flatMap_append]
    exact runsF_app ds _ _
theorem runsF_nil {R : Int} : ∀ (ds : List Day), runsF R [] ds = []
  | [] => rfl
  | d :: ds => by
    unfold runsF stepR
    rw [List.flatMap_nil]
    exact runsF_nil ds
theorem runsF_none {R : Int} {ds : List Day} : ∀ {l : List (List Int × Int)}, (∀ q ∈ l, ∀ ts, ¬ Rn R q.2 ds ts) → runsF R l ds = [] := fun {l} h => by
  cases e : runsF R l ds with
  | nil => rfl
  | cons x xs =>
    obtain ⟨p, hp, ts, _, hr⟩ := (mem_runsF ds l x.1).mp ⟨x.2, by rw [e]; exact List.mem_cons_self⟩
    exact absurd hr (h p hp ts)
theorem takes_zr {R : Int} {d : Day} {p : List Int × Int} : takes R d p = ((zr d.lo (d.hi + 1)).filter fun t => decide (0 ≤ p.2 + d.b - t ∧ p.2 + d.b - t ≤ R)).map fun t => (p.1 ++ [t], p.2 + d.b - t) := rfl
/-- the run whose sums are the least is told first -/
theorem head_runs {R : Int} : ∀ (ds : List Day) (s : Int) (p c : List Int), Rn R s ds c → (∀ r, Rn R s ds r → ∀ j, j ≤ ds.length → cum c j ≤ cum r j) → ∃ s', (runsF R [(p, s)] ds).head? = some (p ++ c, s')
  | [], s, p, [], _, _ => ⟨s, by simp [runsF]⟩
  | [], s, p, t :: c, h, _ => h.elim
  | d :: ds, s, p, [], h, _ => h.elim
  | d :: ds, s, p, t :: c, h, hm => by
    obtain ⟨⟨h1, h2⟩, ⟨h3, h4⟩, h5⟩ := h
    have ih := head_runs ds (s + d.b - t) (p ++ [t]) c h5 fun r hr j hj => by
      have := hm (t :: r) ⟨⟨h1, h2⟩, ⟨h3, h4⟩, hr⟩ (j + 1) (by simpa using hj)
      simp [cum] at this ⊢
      omega
    obtain ⟨s', ih⟩ := ih
    refine ⟨s', ?_⟩
    rw [runsF, stepR, List.flatMap_cons, List.flatMap_nil, List.append_nil, takes_zr, zr_app (a := d.lo) (b := t) (c := d.hi + 1) h1 (by omega), zr_cons (a := t) (b := d.hi + 1) (by omega), List.filter_append, List.map_append, runsF_app, List.filter_cons_of_pos (by simp; exact ⟨by omega, h4⟩), List.map_cons]
    rw [runsF_none (l := List.map _ (List.filter _ (zr d.lo t))) fun q hq ts hr => ?_]
    · rw [List.nil_append, ← List.singleton_append, runsF_app, List.head?_append, ih]
      simp
    · obtain ⟨u, hu, rfl⟩ := List.mem_map.mp hq
      obtain ⟨hu1, hu2⟩ := List.mem_filter.mp hu
      have hu3 := mem_zr.mp hu1
      simp at hu2
      have := hm (u :: ts) ⟨⟨by omega, by omega⟩, ⟨by omega, by omega⟩, hr⟩ 1 (by simp)
      simp [cum] at this
      omega
theorem first_runs (hd : ∀ d ∈ ds, d.lo ≤ d.hi) {ts : List Int} (h : Rn R F ds ts) : (runsOf R F ds).head? = some (leastRun R F ds) := by
  obtain ⟨s', e⟩ := head_runs (R := R) ds F [] (leastRun R F ds) (least_rn hd h) fun r hr j hj => least_le hr hj
  unfold runsOf
  rw [List.head?_map, e]
  simp
end
end Pv.Feeds

/-! # Fd5 -/
set_option linter.all false
/-! feeds: rows as functions, the greatest row, what can be between -/
namespace Pv.Feeds
section
variable (R F : Int) (ds : List Day)
/-- sums day by day that are those of a run -/
structure Fe (z : Nat → Int) : Prop where
  z0 : z 0 = 0
  st : ∀ i, i < ds.length → ((dA ds i).lo ≤ z (i + 1) - z i ∧ z (i + 1) - z i ≤ (dA ds i).hi) ∧ 0 ≤ had F ds (i + 1) - z (i + 1) ∧ had F ds (i + 1) - z (i + 1) ≤ R
def runZ (z : Nat → Int) : List Int := (List.range ds.length).map fun i => z (i + 1) - z i
end
section
variable {R F : Int} {ds : List Day} {z x y : Nat → Int} {ts : List Int}
theorem cum_runZ (h0 : z 0 = 0) {j : Nat} (hj : j ≤ ds.length) : cum (runZ ds z) j = z j := by
  induction j with
  | zero => simp [cum, h0]
  | succ j ih =>
    have hl : j < (runZ ds z).length := by simp [runZ]; omega
    rw [cum_succ hl, ih (by omega)]
    have : (runZ ds z).getD j 0 = z (j + 1) - z j := by
      rw [List.getD_eq_getElem?_getD]
      simp [runZ, show j < ds.length by omega]
    rw [this]
    omega
theorem Fe.rn (h : Fe R F ds z) : Rn R F ds (runZ ds z) := by
  rw [rn_iff]
  refine ⟨by simp [runZ], fun j hj => ?_⟩
  rw [cum_runZ h.z0 (by omega), cum_runZ h.z0 (by omega)]
  exact h.st j hj
theorem fe_of (h : Rn R F ds ts) : Fe R F ds (cum ts) := ⟨rfl, (rn_iff.mp h).2⟩
theorem runZ_cum (h : ts.length = ds.length) : runZ ds (cum ts) = ts := by
  apply List.ext_getElem?
  intro i
  unfold runZ
  by_cases hi : i < ds.length
  · have hl : i < ts.length := by omega
    have := cum_succ hl
    rw [List.getD_eq_getElem?_getD, List.getElem?_eq_getElem hl] at this
    simp at this
    simp [hi, List.getElem?_eq_getElem hl]
    omega
  · simp [hi]
    omega
theorem cum_inj {us : List Int} (h1 : ts.length = ds.length) (h2 : us.length = ds.length) (h : ∀ j, j ≤ ds.length → cum ts j = cum us j) : ts = us := by
  rw [← runZ_cum h1, ← runZ_cum h2]
  unfold runZ
  refine List.map_congr_left fun i hi => ?_
  have := List.mem_range.mp hi
  rw [h (i + 1) (by omega), h i (by omega)]
theorem Fe.meet (h1 : Fe R F ds x) (h2 : Fe R F ds y) : Fe R F ds fun i => min (x i) (y i) := ⟨by rw [h1.z0, h2.z0]; rfl, fun i hi => by
  have a := h1.st i hi
  have b := h2.st i hi
  try dsimp only
  omega⟩
theorem Fe.join (h1 : Fe R F ds x) (h2 : Fe R F ds y) : Fe R F ds fun i => max (x i) (y i) := ⟨by rw [h1.z0, h2.z0]; rfl, fun i hi => by
  have a := h1.st i hi
  have b := h2.st i hi
  try dsimp only
  omega⟩
/-- between a lesser row and a greater one -/
theorem Fe.mid (h1 : Fe R F ds x) (h2 : Fe R F ds y) {j : Nat} {v : Int} (hv : x j ≤ v) (hv2 : v ≤ y j) : ∃ z, Fe R F ds z ∧ z j = v := by
  refine ⟨fun i => min (y i) (x i + (v - x j)), ⟨?_, fun i hi => ?_⟩, ?_⟩
  · have a := h1.z0
    have b := h2.z0
    try dsimp only
    rw [a, b]
    omega
  · have a := h1.st i hi
    have b := h2.st i hi
    try dsimp only
    omega
  · dsimp only
    omega
/-- one row up to a day, another one from the next -/
theorem Fe.glue (h1 : Fe R F ds x) (h2 : Fe R F ds y) {d : Nat} (hd : d < ds.length) (hb : (dA ds d).lo ≤ y (d + 1) - x d ∧ y (d + 1) - x d ≤ (dA ds d).hi) : Fe R F ds fun i => if i ≤ d then x i else y i := by
  refine ⟨by simp [h1.z0], fun i hi => ?_⟩
  have a := h1.st i hi
  have b := h2.st i hi
  try dsimp only
  by_cases e1 : i + 1 ≤ d
  · rw [if_pos e1, if_pos (by omega)]
    exact a
  · by_cases e2 : i = d
    · subst e2
      rw [if_neg e1, if_pos (Nat.le_refl _)]
      exact ⟨hb, b.2⟩
    · rw [if_neg e1, if_neg (by omega)]
      exact b
end
/-- the feed turned round -/
def mirD (d : Day) : Day := ⟨-d.b, -d.hi, -d.lo⟩
def mir (ds : List Day) : List Day := ds.map mirD
section
variable {R F : Int} {ds : List Day} {z : Nat → Int}
theorem mir_len : (mir ds).length = ds.length := by simp [mir]
theorem mir_dA {i : Nat} (h : i < ds.length) : dA (mir ds) i = mirD (dA ds i) := by
  rw [dA_get (List.getElem?_eq_getElem h)]
  refine dA_get ?_
  simp [mir, h]
theorem mir_had : ∀ {j : Nat}, j ≤ ds.length → had (R - F) (mir ds) j = R - had F ds j
  | 0, _ => by simp [had, sb]
  | j + 1, h => by
    rw [had_succ (by rw [mir_len]; omega), had_succ (show j < ds.length by omega), mir_had (by omega), mir_dA (by omega)]
    simp only [mirD]
    omega
theorem mir_fe : Fe R (R - F) (mir ds) z ↔ Fe R F ds fun i => -z i := by
  constructor
  · intro h
    refine ⟨by rw [h.z0]; rfl, fun i hi => ?_⟩
    have a := h.st i (by rw [mir_len]; exact hi)
    rw [mir_dA hi, mir_had (by omega)] at a
    simp only [mirD] at a
    omega
  · intro h
    refine ⟨by have := h.z0; omega, fun i hi => ?_⟩
    rw [mir_len] at hi
    have a := h.st i hi
    rw [mir_dA hi, mir_had (by omega)]
    simp only [mirD]
    omega
variable (R F ds) in
def greA (j : Nat) : Int := -rowA R (R - F) (mir ds) j
variable (R F ds) in
def greC (j : Nat) : Int := -rowC R (R - F) (mir ds) j
theorem greA_succ {j : Nat} (h : j < ds.length) : greA R F ds (j + 1) = min (greA R F ds j + (dA ds j).hi) (had F ds (j + 1)) := by
  unfold greA
  rw [rowA, mir_dA h, mir_had (by omega)]
  simp only [mirD]
  omega
theorem greC_last : greC R F ds ds.length = greA R F ds ds.length := by
  have := rowC_last (R := R) (F := R - F) (ds := mir ds)
  rw [mir_len] at this
  unfold greC greA
  rw [this]
theorem greC_step {j : Nat} (h : j < ds.length) : greC R F ds j = min (greA R F ds j) (greC R F ds (j + 1) - (dA ds j).lo) := by
  unfold greC greA
  rw [rowC_step (by rw [mir_len]; exact h), mir_dA h]
  simp only [mirD]
  omega
theorem lea_fe (hd : ∀ d ∈ ds, d.lo ≤ d.hi) (h : Fe R F ds z) : Fe R F ds (rowC R F ds) := by
  have r := h.rn
  have l := fe_of (least_rn hd r)
  have z0 := rowC_0 r
  refine ⟨z0, fun i hi => ?_⟩
  have := l.st i hi
  rw [cum_least (by omega), cum_least (by omega), z0] at this
  simpa using this
theorem lea_le (h : Fe R F ds z) {j : Nat} (hj : j ≤ ds.length) : rowC R F ds j ≤ z j := by
  have := rowC_le h.rn (ds.length - j) j (by omega)
  rwa [cum_runZ h.z0 hj] at this
theorem mir_lh (hd : ∀ d ∈ ds, d.lo ≤ d.hi) : ∀ d ∈ mir ds, d.lo ≤ d.hi := fun d h => by
  obtain ⟨e, he, rfl⟩ := List.mem_map.mp h
  have := hd e he
  simp only [mirD]
  omega
theorem gre_fe (hd : ∀ d ∈ ds, d.lo ≤ d.hi) (h : Fe R F ds z) : Fe R F ds (greC R F ds) := by
  have h' : Fe R (R - F) (mir ds) fun i => -z i := mir_fe.mpr (by simpa using h)
  exact mir_fe.mp (lea_fe (mir_lh hd) h')
theorem gre_ge (h : Fe R F ds z) {j : Nat} (hj : j ≤ ds.length) : z j ≤ greC R F ds j := by
  have h' : Fe R (R - F) (mir ds) fun i => -z i := mir_fe.mpr (by simpa using h)
  have := lea_le h' (j := j) (by rw [mir_len]; exact hj)
  unfold greC
  omega
/-- what can stand at a day -/
theorem can_sum (hd : ∀ d ∈ ds, d.lo ≤ d.hi) (h : Fe R F ds z) {j : Nat} (hj : j ≤ ds.length) {v : Int} : (∃ r, Rn R F ds r ∧ cum r j = v) ↔ rowC R F ds j ≤ v ∧ v ≤ greC R F ds j := by
  constructor
  · rintro ⟨r, hr, rfl⟩
    exact ⟨lea_le (fe_of hr) hj, gre_ge (fe_of hr) hj⟩
  · rintro ⟨h1, h2⟩
    obtain ⟨x, hx, e⟩ := (lea_fe hd h).mid (gre_fe hd h) h1 h2
    exact ⟨runZ ds x, hx.rn, by rw [cum_runZ hx.z0 hj, e]⟩
/-- what can be taken on a day -/
theorem can_take (hd : ∀ d ∈ ds, d.lo ≤ d.hi) (h : Fe R F ds z) {j : Nat} (hj : j < ds.length) {v : Int} : (∃ r, Rn R F ds r ∧ r.getD j 0 = v) ↔ max (dA ds j).lo (rowC R F ds (j + 1) - greC R F ds j) ≤ v ∧ v ≤ min (dA ds j).hi (greC R F ds (j + 1) - rowC R F ds j) := by
  have hl := lea_fe hd h
  have hg := gre_fe hd h
  constructor
  · rintro ⟨r, hr, rfl⟩
    have hf := fe_of hr
    have e := cum_succ (r := r) (j := j) (by rw [rn_len hr]; exact hj)
    have a := hf.st j hj
    have b1 := lea_le hf (j := j) (by omega)
    have b2 := lea_le hf (j := j + 1) (by omega)
    have b3 := gre_ge hf (j := j) (by omega)
    have b4 := gre_ge hf (j := j + 1) (by omega)
    omega
  · rintro ⟨h1, h2⟩
    have c1 := lea_le hl (j := j) (by omega)
    have g1 := gre_ge hl (j := j) (by omega)
    have g2 := gre_ge hl (j := j + 1) (by omega)
    -- two sums that differ by v
    obtain ⟨a, ha1, ha2, hb1, hb2⟩ : ∃ a, rowC R F ds j ≤ a ∧ a ≤ greC R F ds j ∧ rowC R F ds (j + 1) ≤ a + v ∧ a + v ≤ greC R F ds (j + 1) := ⟨max (rowC R F ds j) (rowC R F ds (j + 1) - v), by omega, by omega, by omega, by omega⟩
    obtain ⟨x, hx, ex⟩ := hl.mid hg ha1 ha2
    obtain ⟨y, hy, ey⟩ := hl.mid hg hb1 hb2
    have hz := hx.glue hy hj (by rw [ex, ey]; omega)
    refine ⟨_, hz.rn, ?_⟩
    have hlen : j < (runZ ds fun i => if i ≤ j then x i else y i).length := by simp [runZ]; exact hj
    have e := cum_succ hlen
    rw [cum_runZ (z := fun i => if i ≤ j then x i else y i) hz.z0 (by omega), cum_runZ (z := fun i => if i ≤ j then x i else y i) hz.z0 (by omega)] at e
    simp at e
    rw [List.getD_eq_getElem?_getD]
    omega
end
end Pv.Feeds

/-! # R2 -/
set_option Elab.async false
set_option linter.all false
set_option maxHeartbeats 1000000
set_option maxRecDepth 10000
namespace Pv.K64
open PySem Pv
theorem w_draw {c : Nat} {st : Ms} (h : PotF c st) {n : Int} (h1 : 0 < n) (h2 : n < 1000000) : Wp (m__law_draw [.cell c, .int n] st) fun x => ∃ r, x.1 = .int r ∧ 0 ≤ r ∧ r < n ∧ PotF c x.2 ∧ x.2.length = st.length := by
  have hl := h.lt
  obtain ⟨a, b, e, ha, hb, hb2, hf⟩ := h
  refine wp_mkFn (by rfl) ?_
  have hs : ∀ x : List D, (st.set c x)[c]? = some x := fun x => List.getElem?_set_self hl
  simp [F__law_draw, e, L2.ixN, setCell, small64, small30, hs]
  have n0 : ¬ n = 0 := by omega
  by_cases h0 : 0 < a
  · refine .inr ⟨h0, ⟨h1, by omega⟩, Int.emod_nonneg _ n0, Int.emod_lt_of_pos _ h1, _, _, hs _, Int.ediv_nonneg ha (by omega), hb, hb2, flatS_set hf (by simp [flatB])⟩
  · have r := fmod_rng (a := b * 40692 + 11213) (n := 2147483587) (by decide)
    refine .inl ⟨by omega, ?_⟩
    refine ⟨⟨by omega, by omega⟩, n0, (fmod_rng h1).1, (fmod_rng h1).2, _, _, hs _, ha, r.1, by omega, flatS_set hf (by simp [flatB])⟩
theorem w_pot {ns : List Int} {st : Ms} (k : Nat) (hk : k ≤ 1) : Wp (m__law_pot [.scr ns, .int k] st) fun x => ∃ a b, x.1 = .own [.int a, .int b] ∧ 0 ≤ a ∧ 0 ≤ b ∧ b < 2147483648 ∧ x.2 = st := by
  refine wp_mkFn (by rfl) ?_
  have r0 : ∀ x : Int, -18446744073709551616 < x.fmod 2147483549 ∧ x.fmod 2147483549 < 18446744073709551616 := fun x => by
    have r := fmod_rng (a := x) (n := 2147483549) (by decide)
    omega
  have fin : ∀ x z : Int, (0 ≤ if 1000000000000000000 < x then x - 1000000000000000000 else 0) ∧ 0 ≤ z.fmod 2147483563 + 1 ∧ z.fmod 2147483563 + 1 < 2147483648 := fun x z => by
    have r := fmod_rng (a := z) (n := 2147483563) (by decide)
    refine ⟨?_, by omega, by omega⟩
    split <;> omega
  by_cases h : k < ns.length
  · have ek : L2.atI ns (k : Int) = some ns[k] := by rw [atI_nat]; simp [h]
    simp [F__law_pot, small64, okPow, h, ek]
    exact fin _ _
  · simp [F__law_pot, small64, okPow, h]
    exact fin _ _
end Pv.K64

/-! # R3 -/
set_option Elab.async false
set_option linter.all false
set_option maxHeartbeats 1000000
set_option maxRecDepth 10000
namespace Pv.K64
open PySem Pv Pv.Feeds
theorem w_pick {c : Nat} {st : Ms} (h : PotF c st) {l : List D} (hl : 0 < l.length) (h2 : l.length < 1000000) : Wp (m__law_pick [.cell c, .lst l] st) fun x => x.1 ∈ l ∧ PotF c x.2 ∧ x.2.length = st.length := by
  refine wp_mkFn (by rfl) ?_
  simp [F__law_pick]
  refine (w_draw h (n := (l.length : Int)) (by omega) (by omega)).mono fun x ⟨r, e, r0, r1, p, hs⟩ => ?_
  obtain ⟨d, st'⟩ := x
  dsimp only at e p hs ⊢
  subst e
  obtain ⟨k, rfl⟩ := Int.eq_ofNat_of_zero_le r0
  have hk : k < l.length := by omega
  simp [atI_nat, List.getElem?_eq_getElem hk, hs, p]
def dayD (d : Day) : D := .tup [.int d.b, .int d.lo, .int d.hi]
def feedD (R F : Int) (ds : List Day) : D := .tup [.str "feed", .int R, .int F, .tup (ds.map dayD)]
structure DayOk (d : Day) : Prop where
  b0 : 0 ≤ d.b
  b1 : d.b ≤ 5
  l0 : 0 ≤ d.lo
  l1 : d.lo ≤ 2
  h0 : d.lo ≤ d.hi
  h1 : d.hi ≤ 6
  w : d.hi - d.lo ≤ 3
structure FeedOk (R F : Int) (ds : List Day) : Prop where
  f0 : 0 ≤ F
  f1 : F ≤ R
  r1 : R ≤ 6
  n0 : 1 ≤ ds.length
  n1 : ds.length ≤ 5
  day : ∀ d ∈ ds, DayOk d
@[simp] theorem dayD_fz {d : Day} : (dayD d).fz = dayD d := by simp [dayD]
@[simp] theorem dayD_of {d : Day} : (dayD d).of = true := by simp [dayD]
@[simp] theorem dayD_nc {d : Day} : (dayD d).nc = true := by simp [dayD]
theorem w_feed {c : Nat} {st : Ms} (h : PotF c st) {mo : Int} (mo1 : 1 ≤ mo) (mo2 : mo ≤ 5) {size : Int} (h1 : 2 ≤ size) (h2 : size ≤ 4) : Wp (m__law_feed [.cell c, .int mo, .int size] st) fun x => ∃ R F ds, x.1 = feedD R F ds ∧ FeedOk R F ds ∧ PotF c x.2 ∧ x.2.length = st.length := by
  refine wp_mkFn (by rfl) ?_
  simp [F__law_feed]
  refine (w_draw h (n := size + 2) (by omega) (by omega)).mono fun x ⟨R, e, R0, R1, p, hs⟩ => ?_
  obtain ⟨d, st1⟩ := x
  dsimp only at e p hs ⊢
  subst e
  simp [wp_sFor]
  refine (w_draw p (n := mo) (by omega) (by omega)).mono fun x ⟨m, e, m0, m1, p, hs1⟩ => ?_
  obtain ⟨d, st2⟩ := x
  dsimp only at e p hs1 ⊢
  subst e
  obtain ⟨m, rfl⟩ := Int.eq_ofNat_of_zero_le m0
  simp [okR]
  refine ⟨by omega, ?_⟩
  rw [steps_eq]
  refine wp_for (α := Nat) (List.range (1 + (m : Int)).toNat) _ (fun (pre : List Nat) (env : Env) (st' : Ms) => (PotF c st' ∧ st'.length = st.length) ∧ ∃ (ds : List Day) (x5 x6 : Option D), env = [some (.cell c), some (.int mo), some (.int size), some (.int R), some (.own (ds.map dayD)), x5, x6] ∧ ds.length = pre.length ∧ ∀ d ∈ ds, DayOk d) ⟨⟨p, by omega⟩, [], none, none, rfl, rfl, fun r h => nomatch h⟩ ?_ ?_
  · rintro pre x post env st' e ⟨⟨p, hs⟩, ds, x5, x6, rfl, hl, hr⟩
    have hpl : pre.length < 1000000 := by
      have := congrArg List.length e
      simp at this
      omega
    simp
    refine (w_draw p (n := 3) (by decide) (by decide)).mono fun x ⟨l, e, l0, l1, p, hs1⟩ => ?_
    obtain ⟨d, st3⟩ := x
    dsimp only at e p hs1 ⊢
    subst e
    simp
    refine (w_pick p (by simp) (by simp)).mono fun x ⟨e, p, hs2⟩ => ?_
    obtain ⟨d, st4⟩ := x
    dsimp only at e p hs2 ⊢
    obtain ⟨lo, rfl, lo0, lo1⟩ : ∃ lo : Int, d = .int lo ∧ 0 ≤ lo ∧ lo ≤ 2 := by
      simp at e
      rcases e with rfl | rfl
      · exact ⟨0, rfl, by omega, by omega⟩
      · exact ⟨l, rfl, l0, by omega⟩
    refine (w_draw p (n := size + 1) (by omega) (by omega)).mono fun x ⟨b, e, b0, b1, p, hs3⟩ => ?_
    obtain ⟨d, st5⟩ := x
    dsimp only at e p hs3 ⊢
    subst e
    refine (w_draw p (n := size) (by omega) (by omega)).mono fun x ⟨w, e, w0, w1, p, hs4⟩ => ?_
    obtain ⟨d, st6⟩ := x
    dsimp only at e p hs4 ⊢
    subst e
    simp
    refine ⟨by omega, ⟨p, by omega⟩, ds ++ [⟨b, lo, lo + w⟩], by simp [dayD], by simp [hl], fun d hd => ?_⟩
    rcases List.mem_append.mp hd with hd | hd
    · exact hr d hd
    · have : d = ⟨b, lo, lo + w⟩ := by simpa using hd
      subst this
      exact ⟨b0, by show b ≤ 5; omega, lo0, lo1, by show lo ≤ lo + w; omega, by show lo + w ≤ 6; omega, by show lo + w - lo ≤ 3; omega⟩
  · rintro env st' ⟨⟨p, hs⟩, ds, x5, x6, rfl, hl, hr⟩
    simp at hl
    simp
    refine (w_draw p (n := R + 1) (by omega) (by omega)).mono fun x ⟨F, e, F0, F1, p, hs5⟩ => ?_
    obtain ⟨d, st7⟩ := x
    dsimp only at e p hs5 ⊢
    subst e
    exact ⟨by omega, R, F, ds, rfl, ⟨F0, by omega, by omega, by omega, by omega, hr⟩, p, by omega⟩
end Pv.K64

/-! # R4 -/
set_option Elab.async false
set_option linter.all false
set_option maxHeartbeats 1000000
set_option maxRecDepth 10000
namespace Pv.K64
open PySem Pv Pv.Feeds
theorem e_is_integer (i : Int) (st : Ms) : m_is_integer [.int i] st = some (.bl true, st) := by
  rw [← wp_eq]
  refine wp_mkFn (by rfl) ?_
  simp [F_is_integer]
theorem e_is_count (i : Int) (hi : 0 ≤ i) (st : Ms) : m_is_count [.int i] st = some (.bl true, st) := by
  rw [← wp_eq]
  refine wp_mkFn (by rfl) ?_
  simp [F_is_count, e_is_integer, hi]
theorem e_is_small (i : Int) (hi : 0 ≤ i) (h2 : i ≤ 999) (st : Ms) : m_is_small [.int i] st = some (.bl true, st) := by
  rw [← wp_eq]
  refine wp_mkFn (by rfl) ?_
  simp [F_is_small, e_is_count i hi, h2]
/-- small enough for the program -/
structure DaySm (d : Day) : Prop where
  b0 : 0 ≤ d.b
  b1 : d.b ≤ 999
  l0 : 0 ≤ d.lo
  h0 : d.lo ≤ d.hi
  h1 : d.hi ≤ 999
structure FeedSm (R F : Int) (ds : List Day) : Prop where
  f0 : 0 ≤ F
  f1 : F ≤ R
  r1 : R ≤ 999
  n0 : 1 ≤ ds.length
  n1 : ds.length ≤ 8
  day : ∀ d ∈ ds, DaySm d
theorem e_day {d : Day} (h : DaySm d) (st : Ms) : m_day_is_right [dayD d] st = some (.bl true, st) := by
  have h1 := h.b0
  have h2 := h.b1
  have h3 := h.l0
  have h4 := h.h0
  have h5 := h.h1
  rw [← wp_eq]
  refine wp_mkFn (by rfl) ?_
  simp [F_day_is_right, dayD, wp_fComp, okAt, wipeE, restE]
  refine wp_each (α := Int) [d.b, d.lo, d.hi] D.int (fun _ => .bl true) (fun x hx => ?_) ?_
  · have hx2 : 0 ≤ x ∧ x ≤ 999 := by
      simp at hx
      omega
    simp [e_is_small x hx2.1 hx2.2, wipeE]
  · have ha := allD_own (st := st) (ns := [true, true, true])
    simp at ha
    simp [ha, h4]
@[simp] theorem feedD_fz {R F : Int} {ds : List Day} : (feedD R F ds).fz = feedD R F ds := by simp [feedD]
theorem e_feed {R F : Int} {ds : List Day} (h : FeedSm R F ds) (st : Ms) : m_feed_is_right [feedD R F ds] st = some (.bl true, st) := by
  have h1 := h.f0
  have h2 := h.f1
  have h3 := h.r1
  have h4 := h.n0
  have h5 := h.n1
  have s1 := e_is_small R (by omega) (by omega) st
  have s2 := e_is_small F (by omega) (by omega) st
  rw [← wp_eq]
  refine wp_mkFn (by rfl) ?_
  simp [F_feed_is_right, feedD, wp_fComp, okAt, wipeE, restE, s1, s2, h2, show (1 : Int) ≤ ds.length by omega, show (ds.length : Int) ≤ 8 by omega]
  refine wp_each (α := Day) ds _ (fun _ => .bl true) (fun x hx => ?_) ?_
  · simp [e_day (h.day x hx), wipeE]
  · simp [allD_map]
    omega
theorem e_check_feed {R F : Int} {ds : List Day} (h : FeedSm R F ds) (st : Ms) : m_check_feed [feedD R F ds] st = some (.non, st) := by
  rw [← wp_eq]
  refine wp_mkFn (by rfl) ?_
  simp [F_check_feed, e_feed h]
end Pv.K64

/-! # R6 -/
set_option Elab.async false
set_option linter.all false
set_option maxHeartbeats 1000000
set_option maxRecDepth 10000
namespace Pv
theorem cut_nm {α : Type} (xs : List α) (b e : Nat) (hb : b ≤ e) : cutL xs (some (b : Int)) (some (e : Int)) = (xs.drop b).take (e - b) := by
  unfold cutL
  have h1 : HT.sIx xs.length 0 (some (b : Int)) = min b xs.length := by
    simp only [HT.sIx]
    rw [if_neg (by omega)]
    simp
  have h2 : HT.sIx xs.length xs.length (some (e : Int)) = min e xs.length := by
    simp only [HT.sIx]
    rw [if_neg (by omega)]
    simp
  rw [h1, h2]
  by_cases h : b ≤ xs.length
  · rw [Nat.min_eq_left h]
    by_cases h3 : e ≤ xs.length
    · rw [Nat.min_eq_left h3]
    · rw [Nat.min_eq_right (by omega), List.take_of_length_le (by simp), List.take_of_length_le (by simp; omega)]
  · rw [Nat.min_eq_right (by omega), List.drop_of_length_le (by omega), List.drop_of_length_le (by omega)]
    simp
end Pv
namespace Pv.K64
open PySem Pv Pv.Feeds
theorem much_ne : (Str.ofString "much" = Str.ofString "little") = False := eq_false (by decide)
@[simp] theorem ix_feed0 {R F : Int} {ds : List Day} {st : Ms} : ixD st (feedD R F ds) (.int 0) = some (.str "feed") := by simp [feedD]
@[simp] theorem ix_feed1 {R F : Int} {ds : List Day} {st : Ms} : ixD st (feedD R F ds) (.int 1) = some (.int R) := by simp [feedD]
@[simp] theorem ix_feed2 {R F : Int} {ds : List Day} {st : Ms} : ixD st (feedD R F ds) (.int 2) = some (.int F) := by simp [feedD]
@[simp] theorem ix_feed3 {R F : Int} {ds : List Day} {st : Ms} : ixD st (feedD R F ds) (.int 3) = some (.tup (ds.map dayD)) := by simp [feedD]
@[simp] theorem map_dayD_fzs {ds : List Day} : D.fzs (ds.map dayD) = ds.map dayD := by simp
/-- the kind's name, and whether it is so -/
def kd (k : Bool) : Str := if k then "much" else "little"
def too (R F : Int) (ds : List Day) (k : Bool) (b e : Nat) : Bool := if k then isMuch R F ds b e else isLittle R F ds b e
theorem cut_days {ds : List Day} {b e : Nat} (hb : b ≤ e) : cutL (ds.map dayD) (some (b : Int)) (some ((e : Int) + 1)) = (cutD ds b e).map dayD := by
  have := cut_nm (ds.map dayD) b (e + 1) (by omega)
  rw [← List.map_drop, ← List.map_take] at this
  exact_mod_cast this
theorem cut_len {ds : List Day} {b e : Nat} : (cutD ds b e).length ≤ ds.length := by
  unfold cutD
  rw [List.length_take, List.length_drop]
  omega
theorem e_too {R F : Int} {ds : List Day} (h : ds.length ≤ 8) {b e : Nat} (hb : b ≤ e) (k : Bool) (st : Ms) : m_is_too_much [feedD R F ds, .str (kd k), .int b, .int e] st = some (.bl (too R F ds k b e), st) := by
  have hc := cut_days (ds := ds) hb
  have hl : (cutD ds b e).length ≤ 8 := Nat.le_trans cut_len h
  have hz : (cutL (ds.map dayD) (some (b : Int)) (some ((e : Int) + 1))) = (cutD ds b e).map dayD := hc
  rw [← wp_eq]
  refine wp_mkFn (by rfl) ?_
  by_cases hb0 : b = 0
  · have h0 : (b = 0) = True := eq_true hb0
    rw [F_is_too_much, wp_sSeq]
    generalize hK : Aft _ _ = K
    simp [feedD, hc, h0]
    rw [← hK, aft_nx, wp_sSeq]
    clear hK K
    generalize hK : Aft _ _ = K
    simp [wp_fComp, okAt, wipeE, restE]
    refine wp_each (α := Day) (cutD ds b e) _ (fun d => .int d.b) (fun d hd => by simp [dayD, wipeE]) ?_
    simp [sumD_map]
    refine ⟨by omega, ?_⟩
    rw [← hK, aft_nx]
    clear hK K
    cases k
    · simp [kd, wp_fComp, okAt, wipeE, restE]
      refine wp_each (α := Day) (cutD ds b e) _ (fun d => .int d.lo) (fun d hd => by simp [dayD, wipeE]) ?_
      simp [sumD_map, too, isLittle, h0, sl, sb]
      omega
    · simp [kd, much_ne, wp_fComp, okAt, wipeE, restE]
      refine wp_each (α := Day) (cutD ds b e) _ (fun d => .int d.hi) (fun d hd => by simp [dayD, wipeE]) ?_
      simp [sumD_map, too, isMuch, h0, sh, sb]
      omega
  · have h0 : (b = 0) = False := eq_false hb0
    rw [F_is_too_much, wp_sSeq]
    generalize hK : Aft _ _ = K
    simp [feedD, hc, h0]
    rw [← hK, aft_nx, wp_sSeq]
    clear hK K
    generalize hK : Aft _ _ = K
    simp [wp_fComp, okAt, wipeE, restE]
    refine wp_each (α := Day) (cutD ds b e) _ (fun d => .int d.b) (fun d hd => by simp [dayD, wipeE]) ?_
    simp [sumD_map]
    refine ⟨by omega, ?_⟩
    rw [← hK, aft_nx]
    clear hK K
    cases k
    · simp [kd, wp_fComp, okAt, wipeE, restE]
      refine wp_each (α := Day) (cutD ds b e) _ (fun d => .int d.lo) (fun d hd => by simp [dayD, wipeE]) ?_
      simp [sumD_map, too, isLittle, h0, sl, sb]
      omega
    · simp [kd, much_ne, wp_fComp, okAt, wipeE, restE]
      refine wp_each (α := Day) (cutD ds b e) _ (fun d => .int d.hi) (fun d hd => by simp [dayD, wipeE]) ?_
      simp [sumD_map, too, isMuch, h0, sh, sb]
      omega
end Pv.K64

/-! # R7 -/
set_option Elab.async false
set_option linter.all false
set_option maxHeartbeats 1000000
set_option maxRecDepth 10000
namespace Pv.K64
open PySem Pv Pv.Feeds
/-- what first_stretch_of tells -/
def Told (R F : Int) (ds : List Day) (x : D) : Prop := (x = .non ∧ Good R F ds) ∨ ∃ k b e, x = .tup [.str (kd k), .int (b : Nat), .int (e : Nat)] ∧ b ≤ e ∧ e < ds.length ∧ too R F ds k b e = true
theorem w_first_stretch_of {R F : Int} {ds : List Day} (h : ds.length ≤ 8) (st : Ms) : Wp (m_first_stretch_of [feedD R F ds] st) fun x => x.2 = st ∧ Told R F ds x.1 := by
  refine wp_mkFn (by rfl) ?_
  have e0 : [D.str "little", D.str "much"] = [false, true].map fun k => D.str (kd k) := rfl
  simp [F_first_stretch_of, wp_sFor]
  rw [e0]
  refine wp_forR (α := Bool) [false, true] _ (fun pre env st' => st' = st ∧ ∃ x1 x2 x3 : Option D, env = [some (feedD R F ds), x1, x2, x3] ∧ ∀ k ∈ pre, ∀ b e, b ≤ e → e < ds.length → too R F ds k b e = false) ⟨rfl, none, none, none, rfl, fun k hk => nomatch hk⟩ ?_ ?_
  · rintro pre k post env st' ek ⟨rfl, x1, x2, x3, rfl, hpre⟩
    simp [wp_sFor, okR]
    refine ⟨by omega, ?_⟩
    rw [steps_eq]
    refine wp_forR (α := Nat) (List.range ds.length) _ (fun pre2 env st2 => st2 = st' ∧ ∃ x2 x3 : Option D, env = [some (feedD R F ds), some (.str (kd k)), x2, x3] ∧ ∀ b ∈ pre2, ∀ e, b ≤ e → e < ds.length → too R F ds k b e = false) ⟨rfl, x2, x3, rfl, fun k hk => nomatch hk⟩ ?_ ?_
    · rintro pre2 b post2 env st2 eb ⟨rfl, x2, x3, rfl, hpre2⟩
      have hb : b < ds.length := List.mem_range.mp (eb ▸ by simp)
      simp [wp_sFor, okR]
      refine ⟨by omega, ?_⟩
      rw [steps_eq]
      refine wp_forR (α := Nat) _ _ (fun (pre3 : List Nat) env st3 => st3 = st2 ∧ ∃ x3 : Option D, env = [some (feedD R F ds), some (.str (kd k)), some (.int b), x3] ∧ ∀ i ∈ pre3, too R F ds k b (b + i) = false) ⟨rfl, x3, rfl, fun k hk => nomatch hk⟩ ?_ ?_
      · rintro pre3 i post3 env st3 ei ⟨rfl, x3, rfl, hpre3⟩
        have hi : i < ds.length - b := List.mem_range.mp (ei ▸ by simp)
        have et := e_too (R := R) (F := F) h (b := b) (e := b + i) (by omega) k st3
        rw [Int.natCast_add] at et
        simp [et]
        by_cases ht : too R F ds k b (b + i) = true
        · simp [ht]
          exact .inr ⟨k, b, b + i, by simp, by omega, by omega, ht⟩
        · simp [ht]
          intro j hj
          rcases hj with hj | rfl
          · exact hpre3 j hj
          · simpa using ht
      · rintro env st3 ⟨rfl, x3, rfl, hall⟩
        refine ⟨rfl, ⟨_, _, rfl⟩, fun b' hb' e he he2 => ?_⟩
        rcases hb' with hb' | rfl
        · exact hpre2 b' hb' e he he2
        · 
          have := hall (e - b') (List.mem_range.mpr (by omega))
          rwa [show b' + (e - b') = e by omega] at this
    · rintro env st2 ⟨rfl, x2, x3, rfl, hall⟩
      refine ⟨rfl, ⟨_, _, _, rfl⟩, fun hk' b e hb he => ?_, fun hk' b e hb he => ?_⟩
      · rcases hk' with hk' | rfl
        · exact hpre _ hk' b e hb he
        · exact hall b (List.mem_range.mpr (by omega)) e hb he
      · rcases hk' with hk' | rfl
        · exact hpre _ hk' b e hb he
        · exact hall b (List.mem_range.mpr (by omega)) e hb he
  · rintro env st' ⟨rfl, x1, x2, x3, rfl, hall⟩
    simp
    exact .inl ⟨rfl, fun b e hb he => ⟨by have := hall false (by simp) b e hb he; simpa [too] using this, by have := hall true (by simp) b e hb he; simpa [too] using this⟩⟩
theorem e_is_position {i n : Nat} (h : i < n) (st : Ms) : m_is_position [.int i, .int n] st = some (.bl true, st) := by
  rw [← wp_eq]
  refine wp_mkFn (by rfl) ?_
  simp [F_is_position, e_is_count (i : Int) (by omega), h]
theorem cut_1 {x : D} {r : List D} : cutL (x :: r) (some 1) none = r := by simp [cutL, HT.sIx]
end Pv.K64

/-! # R8 -/
set_option Elab.async false
set_option linter.all false
set_option maxHeartbeats 1000000
set_option maxRecDepth 10000
namespace Pv.K64
open PySem Pv Pv.Feeds
@[simp] theorem ix_day2 {d : Day} {st : Ms} : ixD st (dayD d) (.int 2) = some (.int d.hi) := by simp [dayD]
theorem w_had {R F : Int} {ds : List Day} (h : ds.length ≤ 8) (st : Ms) : Wp (m_had_of [feedD R F ds] st) fun x => x.2 = st ∧ ∃ xs : List Int, x.1 = .own (xs.map .int) ∧ xs.length = ds.length + 1 := by
  refine wp_mkFn (by rfl) ?_
  simp [F_had_of, wp_sFor]
  refine wp_for (α := Day) ds _ (fun pre env st' => st' = st ∧ ∃ (xs : List Int) (x : Int) (x2 x3 x4 : Option D), env = [some (feedD R F ds), some (.own ((xs ++ [x]).map .int)), x2, x3, x4] ∧ xs.length = pre.length) ⟨rfl, [], F, none, none, none, rfl, rfl⟩ ?_ ?_
  · rintro pre d post env st' e ⟨rfl, xs, x, x2, x3, x4, rfl, hl⟩
    have := mem_split_len e
    simp [dayD]
    refine ⟨by omega, xs ++ [x], by simp, by simp [hl]⟩
  · rintro env st' ⟨rfl, xs, x, x2, x3, x4, rfl, hl⟩
    simp
    exact ⟨xs ++ [x], by simp, by simp [hl]⟩
theorem w_least_row {R F : Int} {ds : List Day} (h : ds.length ≤ 8) (st : Ms) : Wp (m_least_row [feedD R F ds] st) fun x => x.2 = st ∧ ∃ xs : List Int, x.1 = .own (xs.map .int) ∧ xs.length = ds.length + 1 := by
  refine wp_mkFn (by rfl) ?_
  rw [F_least_row, wp_sSeq]
  generalize hK : Aft _ _ = K
  simp
  refine (w_had (R := R) (F := F) h st).mono fun x ⟨e, hs, e1, hl⟩ => ?_
  obtain ⟨d, st1⟩ := x
  dsimp only at e e1
  subst e e1
  simp
  rw [← hK, aft_nx]
  clear hK K
  simp [wp_sFor]
  rw [enum_g]
  refine wp_for (α := Day × Nat) _ _ (fun pre env st' => st' = st1 ∧ ∃ (xs : List Int) (x : Int) (x4 x5 x6 x7 : Option D), env = [some (feedD R F ds), some (.own (hs.map .int)), some (.tup (ds.map dayD)), some (.own ((xs ++ [x]).map .int)), x4, x5, x6, x7] ∧ xs.length = pre.length) ⟨rfl, [], 0, none, none, none, none, rfl, rfl⟩ ?_ ?_
  · rintro pre d post env st' e ⟨rfl, xs, x, x4, x5, x6, x7, rfl, hl2⟩
    obtain ⟨h1, h2⟩ := zipIdx_at e
    have h3 := (mem_split_len e).1
    rw [List.length_zipIdx] at h3
    have hx : L2.atI (hs.map D.int) ((d.2 : Int) + 1) = some (.int (hs[d.2 + 1]'(by omega))) := by
      rw [show ((d.2 : Int) + 1) = ((d.2 + 1 : Nat) : Int) by omega, atI_nat]
      simp [show d.2 + 1 < hs.length by omega]
    simp [dayD, hx]
    refine ⟨by omega, xs ++ [x], by simp, by simp [hl2]⟩
  · rintro env st' ⟨rfl, xs, x, x4, x5, x6, x7, rfl, hl2⟩
    rw [List.length_zipIdx] at hl2
    simp [wp_sFor, okR]
    refine ⟨by omega, ?_⟩
    rw [steps_eq, show (List.map D.int xs ++ [D.int x]) = (xs ++ [x]).map D.int by simp]
    refine wp_for (α := Nat) _ _ (fun (pre : List Nat) env st2 => st2 = st' ∧ ∃ (zs : List Int) (x4 : Option D), env = [some (feedD R F ds), some (.own (hs.map .int)), some (.tup (ds.map dayD)), some (.own (zs.map .int)), x4, x5, x6, x7] ∧ zs.length = ds.length + 1) ⟨rfl, xs ++ [x], x4, rfl, by simp [hl2]⟩ ?_ ?_
    · rintro pre i post env st2 e ⟨rfl, zs, x4, rfl, hz⟩
      have hi : i < ds.length := List.mem_range.mp (e ▸ by simp)
      obtain ⟨k, hk⟩ : ∃ k : Nat, (ds.length : Int) - 1 + (i : Int) * -1 = (k : Int) := ⟨ds.length - 1 - i, by omega⟩
      have hk2 : k < ds.length := by omega
      have a1 : L2.atI (zs.map D.int) (k : Int) = some (.int (zs[k]'(by omega))) := by
        rw [atI_nat]; simp [show k < zs.length by omega]
      have a2 : L2.atI (zs.map D.int) ((k : Int) + 1) = some (.int (zs[k + 1]'(by omega))) := by
        rw [show ((k : Int) + 1) = ((k + 1 : Nat) : Int) by omega, atI_nat]
        simp [show k + 1 < zs.length by omega]
      have a3 : L2.atI (ds.map dayD) (k : Int) = some (dayD ds[k]) := by
        rw [atI_nat]; simp [hk2]
      have a4 : L2.ixN zs.length (k : Int) = some k := by
        unfold L2.ixN
        simp [show k < zs.length by omega]
      rw [hk]
      simp [a1, a2, a3, a4, ix_day2]
      refine ⟨zs.set k _, by rw [List.map_set], by simp [hz]⟩
    · rintro env st2 ⟨rfl, zs, x4, rfl, hz⟩
      simp
      exact ⟨zs, rfl, hz⟩
end Pv.K64

/-! # R9 -/
set_option Elab.async false
set_option linter.all false
set_option maxHeartbeats 1000000
set_option maxRecDepth 10000
namespace Pv.K64
open PySem Pv Pv.Feeds
theorem ite_max {i j : Int} : (if i < j then j else i) = max i j := by
  split <;> omega
theorem ite_min {i j : Int} : (if j < i then j else i) = min i j := by
  split <;> omega
theorem cut_from1 {l : List D} : cutL l (some 1) none = l.drop 1 := by
  cases l with
  | nil => simp [cutL, HT.sIx]
  | cons x r => simp [cut_1]
theorem zipD_map {α β : Type} {f : α → D} {g : β → D} (xs : List α) (ys : List β) : zipD (xs.map f) (ys.map g) = (xs.zip ys).map fun p => .tup [f p.1, g p.2] := by
  unfold zipD
  rw [List.zipWith_map, List.zip, List.map_zipWith]
theorem w_steps_of {xs : List Int} (hl : xs.length ≤ 1000000) (st : Ms) : Wp (m_steps_of [.lst (xs.map .int)] st) fun x => x.2 = st ∧ ∃ ys, x.1 = .own ys := by
  refine wp_mkFn (by rfl) ?_
  simp [F_steps_of, wp_fComp, okAt, wipeE, restE, cut_from1]
  have ht : D.fzs (List.map D.int xs).tail = xs.tail.map D.int := by cases xs <;> simp
  rw [ht, zipD_map]
  refine wp_each (α := Int × Int) _ _ (fun p => .int (p.2 - p.1)) (fun p hp => by simp [wipeE]) ?_
  simp
  omega
theorem told_bad {R F : Int} {ds : List Day} {k : Bool} {b e : Nat} (hb : b ≤ e) (he : e < ds.length) (h : too R F ds k b e = true) : ¬ Good R F ds := fun g => by
  have := g b e hb he
  cases k
  · simp [too, this.1] at h
  · simp [too, this.2] at h
end Pv.K64

/-! # R12 -/
set_option Elab.async false
set_option linter.all false
set_option maxHeartbeats 1000000
set_option maxRecDepth 10000
namespace Pv.K64
open PySem Pv Pv.Feeds
def rsD (p : List Int × Int) : D := .tup [.lst (p.1.map .int), .int p.2]
def runD (r : List Int) : D := .lst (r.map .int)
def rsO (p : List Int × Int) : D := .tup [.own (p.1.map .int), .int p.2]
@[simp] theorem rsO_fz {p : List Int × Int} : (rsO p).fz = rsD p := by simp [rsO, rsD]
@[simp] theorem rsD_fz {p : List Int × Int} : (rsD p).fz = rsD p := by simp [rsD]
@[simp] theorem runD_fz {p : List Int} : (runD p).fz = runD p := by simp [runD]
def takeP (R : Int) (d : Day) (p : List Int × Int) (n : Nat) : List (List Int × Int) := (((List.range n).map fun i : Nat => d.lo + (i : Int)).filter fun t => decide (0 ≤ p.2 + d.b - t ∧ p.2 + d.b - t ≤ R)).map fun t => (p.1 ++ [t], p.2 + d.b - t)
theorem takeP_len {R : Int} {d : Day} {p : List Int × Int} {n : Nat} : (takeP R d p n).length ≤ n := by
  unfold takeP
  rw [List.length_map]
  refine Nat.le_trans (List.length_filter_le _ _) ?_
  simp
theorem takeP_succ {R : Int} {d : Day} {p : List Int × Int} {n : Nat} : takeP R d p (n + 1) = takeP R d p n ++ if 0 ≤ p.2 + d.b - (d.lo + n) ∧ p.2 + d.b - (d.lo + n) ≤ R then [(p.1 ++ [d.lo + (n : Int)], p.2 + d.b - (d.lo + n))] else [] := by
  unfold takeP
  rw [List.range_succ, List.map_append, List.filter_append, List.map_append]
  congr 1
  by_cases h : 0 ≤ p.2 + d.b - (d.lo + n) ∧ p.2 + d.b - (d.lo + n) ≤ R
  · rw [if_pos h, List.map_cons, List.map_nil, List.filter_cons_of_pos (by simpa using h)]
    simp
  · rw [if_neg h, List.map_cons, List.map_nil, List.filter_cons_of_neg (by simpa using h)]
    simp
theorem range_split {n : Nat} {pre post : List Nat} {x : Nat} (e : List.range n = pre ++ x :: post) : x = pre.length ∧ x < n := by
  have h : (List.range n)[pre.length]? = some x := by rw [e]; simp
  have h2 := (mem_split_len e).1
  rw [List.length_range] at h2
  rw [List.getElem?_range h2] at h
  simp at h
  omega
/-- nothing there, or nothing that could change -/
def Fr : Option D → Prop
  | some d => d.of = true
  | none => True
theorem e_runs {R F : Int} {ds : List Day} (h : FeedOk R F ds) (st : Ms) : m__law_runs [feedD R F ds] st = some (.own ((runsOf R F ds).map runD), st) := by
  rw [← wp_eq]
  refine wp_mkFn (by rfl) ?_
  simp [F__law_runs, wp_sFor]
  refine wp_for (α := Day) ds _ (fun pre env st' => st' = st ∧ ∃ (d1 : D) (x2 x3 x4 x5 x6 x7 x8 : Option D), env = [some (feedD R F ds), some d1, x2, x3, x4, x5, x6, x7, x8] ∧ d1.fz = .lst ((runsF R [([], F)] pre).map rsD) ∧ Fr x6 ∧ Fr x7) ⟨rfl, _, none, none, none, none, none, none, none, rfl, by simp [runsF, rsD], trivial, trivial⟩ ?_ ?_
  · rintro pre d post env st' e ⟨rfl, d1, x2, x3, x4, x5, x6, x7, x8, rfl, hd1, f6, f7⟩
    have hrl : ∀ p ∈ runsF R [([], F)] pre, p.1.length ≤ 5 := fun p hp => by
      have := rn_len (mem_runs.mp (List.mem_map.mpr ⟨p, hp, rfl⟩ : p.1 ∈ runsOf R F pre))
      have := (mem_split_len e).1
      have := h.n1
      omega
    have hlr : (runsF R [([], F)] pre).length ≤ 16807 := by
      have a := runsF_len (R := R) (k := 7) pre [([], F)] fun d hd => by
        have hx := h.day d (by rw [e]; simp [hd])
        have := hx.h1; have := hx.l0
        omega
      have b : pre.length ≤ 5 := by
        have := (mem_split_len e).1
        have := h.n1
        omega
      have c : 7 ^ pre.length ≤ 7 ^ 5 := Nat.pow_le_pow_right (by decide) b
      simp at a
      omega
    have hd7 : d.hi + 1 - d.lo ≤ 7 := by
      have hx := h.day d (by rw [e]; simp)
      have := hx.h1; have := hx.l0
      omega
    have hdr := h.day d (by rw [e]; simp)
    have d1' := hdr.l0
    have d2' := hdr.h1
    have d3' := hdr.h0
    have hsn := runsF_snoc (R := R) (d := d) pre [([], F)]
    generalize runsF R [([], F)] pre = rs at *
    simp [dayD, wp_sFor, hd1]
    refine wp_for (α := List Int × Int) rs rsD (fun pre2 env st2 => st2 = st' ∧ ∃ (x6 x7 x8 : Option D), env = [some (feedD R F ds), some (.lst (rs.map rsD)), some (.int d.b), some (.int d.lo), some (.int d.hi), some (.own ((pre2.flatMap (takes R d)).map rsO)), x6, x7, x8] ∧ Fr x6 ∧ Fr x7) ⟨rfl, x6, x7, x8, rfl, f6, f7⟩ ?_ ?_
    · rintro pre2 p post2 env st2 e2 ⟨rfl, x6, x7, x8, rfl, f6, f7⟩
      have hp4 := hrl p (by rw [e2]; simp)
      have hl2 : (pre2.flatMap (takes R d)).length ≤ pre2.length * 7 := stepR_len (R := R) (d := d) (k := 7) hd7 pre2
      have hl3 := (mem_split_len e2).1
      generalize hP : pre2.flatMap (takes R d) = P at hl2 ⊢
      simp [rsD, wp_sFor, okR, hP]
      refine ⟨by omega, ?_⟩
      rw [steps_eq]
      refine wp_for (α := Nat) _ _ (fun (pre3 : List Nat) env st3 => st3 = st2 ∧ ∃ (x8 : Option D), env = [some (feedD R F ds), some (.lst (rs.map rsD)), some (.int d.b), some (.int d.lo), some (.int d.hi), some (.own ((P ++ takeP R d p pre3.length).map rsO)), some (.lst (p.1.map .int)), some (.int p.2), x8]) ⟨rfl, x8, by simp [takeP]⟩ ?_ ?_
      · rintro pre3 i post3 env st3 e3 ⟨rfl, x8, rfl⟩
        obtain ⟨hi1, hi2⟩ := range_split e3
        have hl4 := takeP_len (R := R) (d := d) (p := p) (n := pre3.length)
        subst hi1
        simp [takeP_succ]
        by_cases c1 : d.lo + (pre3.length : Int) ≤ p.2 + d.b
        · refine .inr ⟨c1, ?_⟩
          by_cases c2 : p.2 + d.b - (d.lo + (pre3.length : Int)) ≤ R
          · exact .inr ⟨c2, by omega, by omega, by rw [if_pos ⟨c1, c2⟩]; simp [rsO]⟩
          · exact .inl ⟨by omega, fun _ => by omega⟩
        · exact .inl ⟨by omega, fun z => absurd z c1⟩
      · rintro env st3 ⟨rfl, x8, rfl⟩
        simp
        exact ⟨_, _, ⟨rfl, rfl, rfl⟩, by simp [Fr], by simp [Fr]⟩
    · rintro env st2 ⟨rfl, x6, x7, x8, rfl, f6, f7⟩
      simp [hsn]
      exact ⟨_, _, _, _, _, _, _, ⟨rfl, rfl, rfl, rfl, rfl, rfl, rfl⟩, by simp [stepR], f6, f7⟩
  · rintro env st' ⟨rfl, d1, x2, x3, x4, x5, x6, x7, x8, rfl, hd1, f6, f7⟩
    have k6 : okAt [some (feedD R F ds), some d1.fz, x2, x3, x4, x5, x6, x7, x8] [6, 7] = true := by
      cases x6 <;> cases x7 <;> simp [okAt] <;> simp_all [Fr]
    simp [wp_fComp, wipeE, restE, hd1]
    rw [hd1] at k6
    refine ⟨k6, ?_⟩
    have hlr : (runsF R [([], F)] ds).length ≤ 16807 := by
      have a := runsF_len (R := R) (k := 7) ds [([], F)] fun d hd => by
        have hx := h.day d hd
        have := hx.h1; have := hx.l0
        omega
      have c : 7 ^ ds.length ≤ 7 ^ 5 := Nat.pow_le_pow_right (by decide) h.n1
      simp at a
      omega
    refine wp_each (α := List Int × Int) _ rsD (fun p => runD p.1) (fun p hp => by simp [rsD, runD, wipeE]) ?_
    simp [runsOf, Function.comp]
    omega
end Pv.K64

/-! # R13 -/
set_option Elab.async false
set_option linter.all false
set_option maxHeartbeats 1000000
set_option maxRecDepth 10000
namespace Pv.K64
open PySem Pv Pv.Feeds
theorem same_eq : ∀ n, m__law_same_n n = m_same2_n n
  | 0 => rfl
  | n + 1 => by
    show mkFn 4 2 (F__law_same (m__law_same_n n)) = mkFn 4 2 (F_same2 (m_same2_n n))
    rw [same_eq n]
    rfl
theorem e_same (d : D) (st : Ms) (h : D.ok 7 d = true) : m__law_same [d, d] st = some (.bl true, st) := by
  show m__law_same_n 8 [d, d] st = _
  rw [same_eq]
  exact same2_refl 7 d st h
end Pv.K64

/-! # R10 -/
set_option Elab.async false
set_option linter.all false
set_option maxHeartbeats 1000000
set_option maxRecDepth 10000
namespace Pv.K64
open PySem Pv Pv.Feeds
def allSt (n : Nat) : List (Bool × Nat × Nat) := [false, true].flatMap fun k => (List.range n).flatMap fun b => (List.range (n - b)).map fun i => (k, b, b + i)
def badL (R F : Int) (ds : List Day) : List (Bool × Nat × Nat) := (allSt ds.length).filter fun q => too R F ds q.1 q.2.1 q.2.2
def stqD (q : Bool × Nat × Nat) : D := .tup [.str (kd q.1), .int q.2.1, .int q.2.2]
def stO : Option (Bool × Nat × Nat) → D
  | none => .non
  | some q => stqD q
section
variable {R F : Int} {ds : List Day} {st : Ms}
theorem mem_allSt {n : Nat} {q : Bool × Nat × Nat} : q ∈ allSt n ↔ q.2.1 ≤ q.2.2 ∧ q.2.2 < n := by
  obtain ⟨k, b, e⟩ := q
  unfold allSt
  simp only [List.mem_flatMap, List.mem_map, List.mem_range, Prod.mk.injEq]
  constructor
  · rintro ⟨k', _, b', hb, i, hi, rfl, rfl, rfl⟩
    exact ⟨by omega, by omega⟩
  · rintro ⟨h1, h2⟩
    exact ⟨k, by cases k <;> simp, b, by omega, e - b, by omega, rfl, rfl, by omega⟩
theorem good_bad : Good R F ds ↔ badL R F ds = [] := by
  unfold badL
  rw [List.filter_eq_nil_iff]
  constructor
  · rintro g ⟨k, b, e⟩ hq
    obtain ⟨h1, h2⟩ := mem_allSt.mp hq
    obtain ⟨a, c⟩ := g b e h1 h2
    cases k <;> simp [too, a, c]
  · intro h b e h1 h2
    have a := h (false, b, e) (mem_allSt.mpr ⟨h1, h2⟩)
    have c := h (true, b, e) (mem_allSt.mpr ⟨h1, h2⟩)
    simp [too] at a c
    exact ⟨a, c⟩
theorem head_bad {pre post : List Bool} {k : Bool} {pre2 post2 pre3 post3 : List Nat} {b i : Nat} (e1 : [false, true] = pre ++ k :: post) (h1 : ∀ k ∈ pre, ∀ b e, b ≤ e → e < ds.length → too R F ds k b e = false)
    (e2 : List.range ds.length = pre2 ++ b :: post2) (h2 : ∀ b ∈ pre2, ∀ e, b ≤ e → e < ds.length → too R F ds k b e = false)
    (e3 : List.range (ds.length - b) = pre3 ++ i :: post3) (h3 : ∀ i ∈ pre3, too R F ds k b (b + i) = false) (h : too R F ds k b (b + i) = true) : (badL R F ds).head? = some (k, b, b + i) := by
  have hp2 : ∀ x ∈ pre2, x < ds.length := fun x hx => List.mem_range.mp (e2 ▸ by simp [hx])
  unfold badL allSt
  rw [e1, List.flatMap_append, List.flatMap_cons]
  rw [show (List.range ds.length).flatMap (fun b => (List.range (ds.length - b)).map fun i => (k, b, b + i)) = pre2.flatMap (fun b => (List.range (ds.length - b)).map fun i => (k, b, b + i)) ++ (pre3.map (fun i => (k, b, b + i)) ++ (k, b, b + i) :: post3.map fun i => (k, b, b + i)) ++ post2.flatMap (fun b => (List.range (ds.length - b)).map fun i => (k, b, b + i)) by
    rw [e2, List.flatMap_append, List.flatMap_cons, e3, List.map_append, List.map_cons]; simp only [List.append_assoc, List.cons_append]]
  simp only [List.filter_append]
  rw [List.filter_eq_nil_iff.mpr, List.filter_eq_nil_iff.mpr, List.filter_eq_nil_iff.mpr, List.nil_append, List.nil_append, List.nil_append, List.filter_cons_of_pos (p := fun q : Bool × Nat × Nat => too R F ds q.1 q.2.1 q.2.2) (a := (k, b, b + i)) h]
  · rfl
  · intro q hq
    obtain ⟨j, hj, rfl⟩ := List.mem_map.mp hq
    simp [h3 j hj]
  · intro q hq
    obtain ⟨b', hb, hq⟩ := List.mem_flatMap.mp hq
    obtain ⟨j, hj, rfl⟩ := List.mem_map.mp hq
    have hj := List.mem_range.mp hj
    simp [h2 b' hb (b' + j) (by omega) (by omega)]
  · intro q hq
    obtain ⟨k', hk, hq⟩ := List.mem_flatMap.mp hq
    obtain ⟨b', hb, hq⟩ := List.mem_flatMap.mp hq
    obtain ⟨j, hj, rfl⟩ := List.mem_map.mp hq
    have hj := List.mem_range.mp hj
    simp [h1 k' hk b' (b' + j) (by omega) (by omega)]
theorem e_first_stretch_of (h : ds.length ≤ 8) : m_first_stretch_of [feedD R F ds] st = some (stO (badL R F ds).head?, st) := by
  rw [← wp_eq]
  refine wp_mkFn (by rfl) ?_
  have e0 : [D.str "little", D.str "much"] = [false, true].map fun k => D.str (kd k) := rfl
  simp [F_first_stretch_of, wp_sFor]
  rw [e0]
  refine wp_forR (α := Bool) [false, true] _ (fun pre env st' => st' = st ∧ ∃ x1 x2 x3 : Option D, env = [some (feedD R F ds), x1, x2, x3] ∧ ∀ k ∈ pre, ∀ b e, b ≤ e → e < ds.length → too R F ds k b e = false) ⟨rfl, none, none, none, rfl, fun k hk => nomatch hk⟩ ?_ ?_
  · rintro pre k post env st' ek ⟨rfl, x1, x2, x3, rfl, hpre⟩
    simp [wp_sFor, okR]
    refine ⟨by omega, ?_⟩
    rw [steps_eq]
    refine wp_forR (α := Nat) (List.range ds.length) _ (fun pre2 env st2 => st2 = st' ∧ ∃ x2 x3 : Option D, env = [some (feedD R F ds), some (.str (kd k)), x2, x3] ∧ ∀ b ∈ pre2, ∀ e, b ≤ e → e < ds.length → too R F ds k b e = false) ⟨rfl, x2, x3, rfl, fun k hk => nomatch hk⟩ ?_ ?_
    · rintro pre2 b post2 env st2 eb ⟨rfl, x2, x3, rfl, hpre2⟩
      have hb : b < ds.length := List.mem_range.mp (eb ▸ by simp)
      simp [wp_sFor, okR]
      refine ⟨by omega, ?_⟩
      rw [steps_eq]
      refine wp_forR (α := Nat) _ _ (fun (pre3 : List Nat) env st3 => st3 = st2 ∧ ∃ x3 : Option D, env = [some (feedD R F ds), some (.str (kd k)), some (.int b), x3] ∧ ∀ i ∈ pre3, too R F ds k b (b + i) = false) ⟨rfl, x3, rfl, fun k hk => nomatch hk⟩ ?_ ?_
      · rintro pre3 i post3 env st3 ei ⟨rfl, x3, rfl, hpre3⟩
        have hi : i < ds.length - b := List.mem_range.mp (ei ▸ by simp)
        have et := e_too (R := R) (F := F) h (b := b) (e := b + i) (by omega) k st3
        rw [Int.natCast_add] at et
        simp [et]
        by_cases ht : too R F ds k b (b + i) = true
        · rw [head_bad ek hpre eb hpre2 ei hpre3 ht]
          simp [ht, stO, stqD]
        · simp [ht]
          intro j hj
          rcases hj with hj | rfl
          · exact hpre3 j hj
          · simpa using ht
      · rintro env st3 ⟨rfl, x3, rfl, hall⟩
        refine ⟨rfl, ⟨_, _, rfl⟩, fun b' hb' e he he2 => ?_⟩
        rcases hb' with hb' | rfl
        · exact hpre2 b' hb' e he he2
        · 
          have := hall (e - b') (List.mem_range.mpr (by omega))
          rwa [show b' + (e - b') = e by omega] at this
    · rintro env st2 ⟨rfl, x2, x3, rfl, hall⟩
      refine ⟨rfl, ⟨_, _, _, rfl⟩, fun hk' b e hb he => ?_, fun hk' b e hb he => ?_⟩
      · rcases hk' with hk' | rfl
        · exact hpre _ hk' b e hb he
        · exact hall b (List.mem_range.mpr (by omega)) e hb he
      · rcases hk' with hk' | rfl
        · exact hpre _ hk' b e hb he
        · exact hall b (List.mem_range.mpr (by omega)) e hb he
  · rintro env st' ⟨rfl, x1, x2, x3, rfl, hall⟩
    have g : Good R F ds := fun b e hb he => ⟨by have := hall false (by simp) b e hb he; simpa [too] using this, by have := hall true (by simp) b e hb he; simpa [too] using this⟩
    rw [good_bad.mp g]
    simp [stO]
/-! rows -/
def rng (f : Nat → Int) (m : Nat) : List D := (List.range (m + 1)).map fun j => .int (f j)
variable {f : Nat → Int} {m j : Nat}
theorem rng_last : (rng f m).getLast? = some (.int (f m)) := by simp [rng, List.range_succ]
theorem rng_at (h : j ≤ m) : L2.atI (rng f m) (j : Int) = some (.int (f j)) := by
  rw [atI_nat]; simp [rng, show j < m + 1 by omega]
theorem rng_len : (rng f m).length = m + 1 := by simp [rng]
theorem rng_snoc : rng f m ++ [.int (f (m + 1))] = rng f (m + 1) := by simp [rng, List.range_succ]
theorem rng_ofs : D.ofs (rng f m) = true := by simp [rng]
theorem rng_fzs : D.fzs (rng f m) = rng f m := by simp [rng]
theorem rng_set {v : Int} (h : j ≤ m) : (rng f m).set j (.int v) = rng (fun i => if i = j then v else f i) m := by
  apply List.ext_getElem?
  intro i
  unfold rng
  rw [List.getElem?_set]
  by_cases e : j = i
  · subst e
    simp [show j < m + 1 by omega]
  · rw [if_neg e]
    by_cases hi : i < m + 1
    · simp [hi, show ¬ i = j by omega]
    · simp [hi]
theorem rng_congr {g : Nat → Int} (h : ∀ j, j ≤ m → f j = g j) : rng f m = rng g m := by
  unfold rng
  exact List.map_congr_left fun j hj => by rw [h j (by have := List.mem_range.mp hj; omega)]
theorem e_had (h : ds.length ≤ 8) : m_had_of [feedD R F ds] st = some (.own (rng (had F ds) ds.length), st) := by
  rw [← wp_eq]
  refine wp_mkFn (by rfl) ?_
  simp [F_had_of, wp_sFor]
  refine wp_for (α := Day) ds _ (fun pre env st' => st' = st ∧ ∃ (x2 x3 x4 : Option D), env = [some (feedD R F ds), some (.own (rng (had F ds) pre.length)), x2, x3, x4]) ⟨rfl, none, none, none, by simp [rng, had, sb]⟩ ?_ ?_
  · rintro pre d post env st' e ⟨rfl, x2, x3, x4, rfl⟩
    obtain ⟨h1, h2⟩ := mem_split_len e
    have hs := had_succ (F := F) h1
    rw [dA_get h2] at hs
    simp [dayD, rng_last, rng_len, rng_ofs, ← hs, rng_snoc]
    omega
  · rintro env st' ⟨rfl, x2, x3, x4, rfl⟩
    simp
theorem e_least_row (h : ds.length ≤ 8) : m_least_row [feedD R F ds] st = some (.own (rng (rowC R F ds) ds.length), st) := by
  rw [← wp_eq]
  refine wp_mkFn (by rfl) ?_
  rw [F_least_row, wp_sSeq]
  generalize hK : Aft _ _ = K
  simp [e_had h]
  rw [← hK, aft_nx]
  clear hK K
  simp [wp_sFor]
  rw [enum_g]
  refine wp_for (α := Day × Nat) _ _ (fun pre env st' => st' = st ∧ ∃ (x4 x5 x6 x7 : Option D), env = [some (feedD R F ds), some (.own (rng (had F ds) ds.length)), some (.tup (ds.map dayD)), some (.own (rng (rowA R F ds) pre.length)), x4, x5, x6, x7]) ⟨rfl, none, none, none, none, rfl⟩ ?_ ?_
  · rintro pre d post env st' e ⟨rfl, x4, x5, x6, x7, rfl⟩
    obtain ⟨h1, h2⟩ := zipIdx_at e
    have h3 := (mem_split_len e).1
    rw [List.length_zipIdx] at h3
    have hx : L2.atI (rng (had F ds) ds.length) ((d.2 : Int) + 1) = some (.int (had F ds (d.2 + 1))) := by
      rw [show ((d.2 : Int) + 1) = ((d.2 + 1 : Nat) : Int) by omega, rng_at (by omega)]
    rw [h1] at hx
    have hr : rowA R F ds (pre.length + 1) = if rowA R F ds pre.length + d.1.lo < had F ds (pre.length + 1) - R then had F ds (pre.length + 1) - R else rowA R F ds pre.length + d.1.lo := by
      rw [rowA, dA_get h2]
      split <;> omega
    simp [dayD, h1, hx, rng_last, rng_len, rng_ofs, ← hr, rng_snoc]
    omega
  · rintro env st' ⟨rfl, x4, x5, x6, x7, rfl⟩
    rw [List.length_zipIdx]
    simp [wp_sFor, okR]
    refine ⟨by omega, ?_⟩
    rw [steps_eq]
    refine wp_for (α := Nat) _ _ (fun (pre : List Nat) env st2 => st2 = st' ∧ ∃ (x4 : Option D), env = [some (feedD R F ds), some (.own (rng (had F ds) ds.length)), some (.tup (ds.map dayD)), some (.own (rng (fun j => if ds.length - pre.length ≤ j then rowC R F ds j else rowA R F ds j) ds.length)), x4, x5, x6, x7]) ⟨rfl, x4, ?_⟩ ?_ ?_
    · rw [rng_congr (f := rowA R F ds)]
      intro j hj
      dsimp only [List.length_nil]
      split
      · have : j = ds.length := by omega
        subst this
        exact rowC_last.symm
      · rfl
    · rintro pre i post env st2 e ⟨rfl, x4, rfl⟩
      obtain ⟨ei, hi⟩ := range_split e
      subst ei
      obtain ⟨k, hk⟩ : ∃ k : Nat, (ds.length : Int) - 1 + (pre.length : Int) * -1 = (k : Int) := ⟨ds.length - 1 - pre.length, by omega⟩
      have hk2 : k < ds.length := by omega
      have hk3 : ds.length - pre.length = k + 1 := by omega
      rw [hk, hk3]
      generalize hf : (fun j => if k + 1 ≤ j then rowC R F ds j else rowA R F ds j) = f
      have f1 : f k = rowA R F ds k := by rw [← hf]; exact if_neg (by omega)
      have f2 : f (k + 1) = rowC R F ds (k + 1) := by rw [← hf]; simp
      have a1 : L2.atI (rng f ds.length) (k : Int) = some (.int (f k)) := rng_at (by omega)
      have a2 : L2.atI (rng f ds.length) ((k : Int) + 1) = some (.int (f (k + 1))) := by
        rw [show ((k : Int) + 1) = ((k + 1 : Nat) : Int) by omega, rng_at (by omega)]
      have a3 : L2.atI (ds.map dayD) (k : Int) = some (dayD ds[k]) := by
        rw [atI_nat]; simp [hk2]
      have a4 : L2.ixN (ds.length + 1) (k : Int) = some k := by
        unfold L2.ixN
        simp
        omega
      have hr : rowC R F ds k = if f k < f (k + 1) - ds[k].hi then f (k + 1) - ds[k].hi else f k := by
        rw [rowC_step hk2, dA_get (List.getElem?_eq_getElem hk2), f1, f2]
        split <;> omega
      simp [a1, a2, a3, a4, ix_day2, rng_ofs, rng_len, ← hr]
      rw [rng_set (by omega)]
      refine rng_congr fun j hj => ?_
      rw [← hf]
      dsimp only
      by_cases e1 : j = k
      · subst e1
        rw [if_pos rfl, if_pos (by omega)]
      · rw [if_neg e1]
        by_cases e2 : k + 1 ≤ j
        · rw [if_pos e2, if_pos (by omega)]
        · rw [if_neg e2, if_neg (by omega)]
    · rintro env st2 ⟨rfl, x4, rfl⟩
      simp
      try exact rng_congr fun j hj => by simp
end
end Pv.K64

/-! # R11 -/
set_option Elab.async false
set_option linter.all false
set_option maxHeartbeats 1000000
set_option maxRecDepth 10000
namespace Pv.K64
open PySem Pv Pv.Feeds
section
variable {R F : Int} {ds : List Day} {st : Ms}
theorem told_bad' (h : badL R F ds ≠ []) : ¬ Good R F ds := fun g => h (good_bad.mp g)
theorem rng_ints {f : Nat → Int} {m : Nat} : rng f m = ((List.range (m + 1)).map f).map .int := by simp [rng, Function.comp]
theorem diffs {f : Nat → Int} {m : Nat} : (((List.range (m + 1)).map f).zip ((List.range (m + 1)).map f).tail).map (fun p => p.2 - p.1) = (List.range m).map fun j => f (j + 1) - f j := by
  apply List.ext_getElem?
  intro i
  simp only [List.getElem?_map, List.getElem?_zip_eq_some, List.zip, List.getElem?_zipWith, List.getElem?_tail]
  by_cases h : i < m
  · simp [h, show i < m + 1 by omega]
  · by_cases h2 : i < m + 1
    · simp [h, h2]
    · simp [h, h2]
theorem e_steps_of {f : Nat → Int} {m : Nat} (hm : m ≤ 100) : m_steps_of [.lst (rng f m)] st = some (.own (((List.range m).map fun j => f (j + 1) - f j).map .int), st) := by
  rw [← wp_eq]
  refine wp_mkFn (by rfl) ?_
  have ht : D.fzs ((List.range (m + 1)).map fun j => D.int (f j)).tail = ((List.range (m + 1)).map f).tail.map D.int := by
    rw [List.map_tail, List.map_map]
    have : D.fzs ((List.range (m + 1)).map fun j => D.int (f j)).tail = ((List.range (m + 1)).map fun j => D.int (f j)).tail := by
      rw [← List.map_tail]; simp
    rw [this]; rfl
  rw [← diffs]
  simp [F_steps_of, wp_fComp, okAt, wipeE, restE, cut_from1, rng]
  rw [ht]
  have h0 : (List.range (m + 1)).map (fun j => D.int (f j)) = ((List.range (m + 1)).map f).map D.int := by simp [Function.comp]
  rw [h0, zipD_map]
  refine wp_each (α := Int × Int) _ _ (fun p => .int (p.2 - p.1)) (fun p hp => by simp [wipeE]) ?_
  simp [Function.comp]
  omega
theorem e_first_run (h : FeedSm R F ds) : m_first_run [feedD R F ds] st = some (if badL R F ds = [] then .own ((leastRun R F ds).map .int) else .non, st) := by
  have h8 := h.n1
  rw [← wp_eq]
  refine wp_mkFn (by rfl) ?_
  simp [F_first_run, e_check_feed h, e_first_stretch_of h8]
  cases e : badL R F ds with
  | nil =>
    simp [stO, e_least_row h8, rng_fzs, e_steps_of (f := rowC R F ds) (m := ds.length) (by omega)]
    simp [leastRun]
  | cons q qs => simp [stO, stqD]
def sv (F : Int) (ds : List Day) (ts : List Int) (j : Nat) : Int := Feeds.had F ds (j + 1) - cum ts (j + 1)
def svL (F : Int) (ds : List Day) (ts : List Int) : List Int := (List.range ds.length).map (sv F ds ts)
def rng0 (f : Nat → Int) (m : Nat) : List D := (List.range m).map fun j => .int (f j)
theorem rng0_snoc {f : Nat → Int} {m : Nat} : rng0 f m ++ [.int (f m)] = rng0 f (m + 1) := by simp [rng0, List.range_succ]
theorem rng0_len {f : Nat → Int} {m : Nat} : (rng0 f m).length = m := by simp [rng0]
theorem zip_at' {α β : Type} {xs : List α} {ys : List β} {pre post : List (α × β)} {x : α × β} (e : xs.zip ys = pre ++ x :: post) : xs[pre.length]? = some x.1 ∧ ys[pre.length]? = some x.2 := by
  have h : (xs.zip ys)[pre.length]? = some x := by rw [e]; simp
  rw [List.getElem?_zip_eq_some] at h
  exact h
theorem e_law_stores {ts : List Int} (h8 : ds.length ≤ 8) (hl : ts.length = ds.length) {v : D} (hv : v = .lst (ts.map .int) ∨ v = .tup (ts.map .int)) : m__law_stores [feedD R F ds, v] st = some (.own ((svL F ds ts).map .int), st) := by
  rw [← wp_eq]
  refine wp_mkFn (by rfl) ?_
  have hz : seqX v = some (ts.map .int) := by rcases hv with rfl | rfl <;> rfl
  have hf : v.fz = v := by rcases hv with rfl | rfl <;> simp
  simp [F__law_stores, wp_sFor, setAll, hz, hf]
  rw [zipD_map]
  refine wp_for (α := Day × Int) _ _ (fun pre env st' => st' = st ∧ ∃ (x4 x5 x6 x7 : Option D), env = [some (feedD R F ds), some v, some (.own (rng0 (sv F ds ts) pre.length)), some (.int (Feeds.had F ds pre.length - cum ts pre.length)), x4, x5, x6, x7]) ⟨rfl, none, none, none, none, by simp [rng0, Feeds.had, cum, sb]⟩ ?_ ?_
  · rintro pre p post env st' e ⟨rfl, x4, x5, x6, x7, rfl⟩
    obtain ⟨h2, h1⟩ := zip_at' e
    have l1 := (List.getElem?_eq_some_iff.mp h1).1
    have l2 := (List.getElem?_eq_some_iff.mp h2).1
    have a := had_succ (F := F) l2
    rw [dA_get h2] at a
    have b := cum_succ l1
    rw [List.getD_eq_getElem?_getD, h1] at b
    have hs : Feeds.had F ds pre.length - cum ts pre.length + p.1.b - p.2 = sv F ds ts pre.length := by
      unfold sv
      simp at b
      omega
    have hs2 : Feeds.had F ds (pre.length + 1) - cum ts (pre.length + 1) = sv F ds ts pre.length := rfl
    simp [dayD, hs, hs2, rng0_len, rng0_snoc]
    omega
  · rintro env st' ⟨rfl, x4, x5, x6, x7, rfl⟩
    simp [rng0, svL, hl, Function.comp]
end
end Pv.K64

/-! # R15 -/
set_option Elab.async false
set_option linter.all false
set_option maxHeartbeats 1000000
set_option maxRecDepth 10000
namespace Pv.K64
open PySem Pv Pv.Feeds
section
variable {st : Ms}
def cumL (ts : List Int) : List Int := (List.range ts.length).map fun j => cum ts (j + 1)
theorem e_law_taken {ts : List Int} (hl : ts.length ≤ 100) : m__law_taken [.lst (ts.map .int)] st = some (.own ((cumL ts).map .int), st) := by
  rw [← wp_eq]
  refine wp_mkFn (by rfl) ?_
  simp [F__law_taken, wp_fComp, okAt, wipeE, restE, okR]
  refine ⟨by omega, ?_⟩
  rw [steps_eq]
  refine wp_each (α := Nat) _ _ (fun j => .int (cum ts (j + 1))) (fun j hj => ?_) ?_
  · have hc : cutL (ts.map D.int) none (some ((j : Int) + 1)) = (ts.take (j + 1)).map D.int := by
      rw [show ((j : Int) + 1) = ((j + 1 : Nat) : Int) by omega, cut_0n, List.map_take]
    simp [hc, wipeE, cum]
    rw [← List.map_take]
    exact wp_step sumD_own rfl
  · simp [cumL, Function.comp]
    omega
end
end Pv.K64

/-! # RA -/
set_option Elab.async false
set_option linter.all false
set_option maxHeartbeats 1000000
set_option maxRecDepth 10000
namespace Pv.K64
open PySem Pv Pv.Feeds
section
variable {R F : Int} {ds : List Day} {st : Ms}
theorem FeedOk.sm (h : FeedOk R F ds) : FeedSm R F ds := ⟨h.f0, h.f1, by have := h.r1; omega, h.n0, by have := h.n1; omega, fun d hd => by
  have := h.day d hd
  exact ⟨this.b0, by have := this.b1; omega, this.l0, this.h0, by have := this.h1; omega⟩⟩
theorem e_repr (h : FeedOk R F ds) : ∃ s, ∀ st, reprD st [feedD R F ds] = some (.str s) := by
  refine ⟨(feedD R F ds).py.shown, fun st => ?_⟩
  have e : (feedD R F ds).py = .tuple [.str "feed", .int R, .int F, .tuple (ds.map fun d => .tuple ([d.b, d.lo, d.hi].map fun i => .int i))] := by simp [feedD, dayD]
  have hb : ∀ d ∈ ds, ∀ x ∈ [d.b, d.lo, d.hi], -1000 ≤ x ∧ x ≤ 1000 := fun d hd x hx => by
    have := h.day d hd
    have h1 := this.b0; have h2 := this.b1; have h3 := this.l0; have h4 := this.h0; have h5 := this.h1
    simp at hx
    omega
  have hR := h.r1
  have hF := h.f0
  have hF1 := h.f1
  have h1 : isRefD (feedD R F ds) = true ∧ (feedD R F ds).nc = true ∧ (feedD R F ds).py.showable = true ∧ (feedD R F ds).py.depth ≤ 60 ∧ (feedD R F ds).py.shown.length ≤ BIG := by
    refine ⟨rfl, by simp [feedD, dayD], ?_, ?_, ?_⟩
    · rw [e]
      simp only [show_tuple, showAll_eq, List.all_cons, List.all_nil, show_str, int_shows (show -1000 ≤ R by omega) (show R ≤ 1000 by omega), int_shows (show -1000 ≤ F by omega) (show F ≤ 1000 by omega), List.all_map, Bool.true_and, Bool.and_true, List.all_eq_true]
      intro r hr
      simp only [Function.comp_apply, show_tuple, showAll_eq, List.all_map, List.all_eq_true]
      intro x hx
      exact int_shows (hb r hr x hx).1 (hb r hr x hx).2
    · rw [e]
      have : PyData.depthAll (ds.map fun d => PyData.tuple ([d.b, d.lo, d.hi].map fun i => .int i)) ≤ 1 := depAll_map fun r _ => by simp
      simp only [dep_tuple, depAll_cons, depAll_nil, dep_str, dep_int]
      omega
    · rw [e]
      have h2 : ∀ d ∈ ds, (PyData.shown (.tuple ([d.b, d.lo, d.hi].map fun i => .int i))).length ≤ 32 := fun r hr => by
        refine Nat.le_trans (shown_tup_le (b := 5) fun x hx => int_short (hb r hr x hx).1 (hb r hr x hx).2) ?_
        simp
      have h3 : (PyData.shown (.tuple (ds.map fun d => .tuple ([d.b, d.lo, d.hi].map fun i => .int i)))).length ≤ 200 := by
        refine Nat.le_trans (shown_tup_le (b := 32) h2) ?_
        have := h.n1
        omega
      have h4 : (PyData.shown (.str "feed")).length ≤ 200 := by rw [shown_str]; decide +kernel
      have h5 : (PyData.shown (.int R)).length ≤ 200 := Nat.le_trans (int_short (by omega) (by omega)) (by decide)
      have h6 : (PyData.shown (.int F)).length ≤ 200 := Nat.le_trans (int_short (by omega) (by omega)) (by decide)
      have := shown_tup_le (xs := [PyData.str "feed", .int R, .int F, .tuple (ds.map fun d => .tuple ([d.b, d.lo, d.hi].map fun i => .int i))]) (f := id) (b := 200) (by
        intro x hx
        simp only [List.mem_cons, List.not_mem_nil, or_false] at hx
        rcases hx with rfl | rfl | rfl | rfl
        · exact h4
        · exact h5
        · exact h6
        · exact h3)
      simp only [List.map_id_fun, id_eq, List.length_cons, List.length_nil] at this
      exact Nat.le_trans this (by decide)
  exact if_pos h1
theorem neD_ints {xs ys : List Int} : neD st (.own (xs.map .int)) (.own (ys.map .int)) = some (.bl (!decide (xs = ys))) := by
  rw [neD_sq rfl rfl (by simp) (by simp) (by simp) (by simp) (by simp) (by simp)]
  simp [eqvAll_ints]
theorem neD_nil_ints {xs : List Int} : neD st (.own (xs.map .int)) (.own []) = some (.bl (!xs.isEmpty)) := by
  rw [neD_nil_own (by simp) (by simp) (by simp)]
  simp
theorem eqD_nil_ints {xs : List Int} : eqD st (.own (xs.map .int)) (.own []) = some (.bl xs.isEmpty) := by
  rw [eqD_nil_own (by simp) (by simp) (by simp)]
  simp
theorem dep_runs {rs : List (List Int)} : PyData.depthAll (D.pys (rs.map runD)) ≤ 63 := by
  rw [pys_map]
  refine Nat.le_trans (depAll_map (k := 1) fun r _ => ?_) (by decide)
  simp [runD]
theorem neD_nil_runs {rs : List (List Int)} : neD st (.own (rs.map runD)) (.own []) = some (.bl (!rs.isEmpty)) := by
  rw [neD_nil_own (by simp [runD]) (by simp [runD]) dep_runs]
  simp
theorem neD_nil_runsL {rs : List (List Int)} : neD st (.lst (rs.map runD)) (.own []) = some (.bl (!rs.isEmpty)) := by
  rw [neD_nil_lst (by simp [runD]) (by simp [runD]) dep_runs]
  simp
theorem steps_zr {a b : Int} : steps a 1 (b - a).toNat = (zr a b).map .int := by
  rw [steps_eq, zr, List.map_map]
  refine List.map_congr_left fun i _ => ?_
  simp
theorem rgD_zr {a b : Int} : rgD a b = (zr a b).map .int := steps_zr
theorem ex_max {xs : List Int} (h : xs ≠ []) : ex2D W.maxD st [.own (xs.map .int)] = some (.int (lmax xs)) := by
  cases xs with
  | nil => exact absurd rfl h
  | cons x r => exact ext_max (st := st)
theorem ex_maxL {xs : List Int} (h : xs ≠ []) : ex2D W.maxD st [.lst (xs.map .int)] = some (.int (lmax xs)) := by
  cases xs with
  | nil => exact absurd rfl h
  | cons x r => exact ext_max_lst (st := st)
theorem ex_min {xs : List Int} (h : xs ≠ []) : ex2D W.minD st [.own (xs.map .int)] = some (.int (lmin xs)) := by
  cases xs with
  | nil => exact absurd rfl h
  | cons x r => exact ext_min (st := st)
theorem ex_minL {xs : List Int} (h : xs ≠ []) : ex2D W.minD st [.lst (xs.map .int)] = some (.int (lmin xs)) := by
  cases xs with
  | nil => exact absurd rfl h
  | cons x r => exact ext_min_lst (st := st)
theorem FeedOk.lh (h : FeedOk R F ds) : ∀ d ∈ ds, d.lo ≤ d.hi := fun d hd => (h.day d hd).h0
theorem FeedOk.r0 (h : FeedOk R F ds) : 0 ≤ R := by have := h.f0; have := h.f1; omega
theorem can_runs (h : FeedOk R F ds) : can R F F ds = !(runsOf R F ds).isEmpty := by
  rw [Bool.eq_iff_iff, can_rn h.r0 h.lh]
  constructor
  · rintro ⟨ts, ht⟩
    have := mem_runs.mpr ht
    cases e : runsOf R F ds with
    | nil => rw [e] at this; exact nomatch this
    | cons => rfl
  · intro hh
    cases e : runsOf R F ds with
    | nil => rw [e] at hh; simp at hh
    | cons r rs => exact ⟨r, mem_runs.mp (e ▸ List.mem_cons_self)⟩
theorem good_runs (h : FeedOk R F ds) : Good R F ds ↔ runsOf R F ds ≠ [] := by
  rw [← can_good h.f0 h.f1 h.lh, can_runs h]
  cases runsOf R F ds <;> simp
end
end Pv.K64

/-! # R14 -/
set_option Elab.async false
set_option linter.all false
set_option maxHeartbeats 1000000
set_option maxRecDepth 10000
namespace Pv.K64
open PySem Pv Pv.Feeds
@[simp] theorem ix_day1 {d : Day} {st : Ms} : ixD st (dayD d) (.int 1) = some (.int d.lo) := by simp [dayD]
section
variable {R F : Int} {ds : List Day} {st : Ms}
theorem range_idx {n : Nat} : (List.range n).zipIdx = (List.range n).map fun j => (j, j) := by
  apply List.ext_getElem?
  intro i
  rw [List.getElem?_zipIdx]
  by_cases h : i < n
  · simp [h]
  · simp [h]
theorem greA_0 : greA R F ds 0 = 0 := by simp [greA, rowA]
theorem e_greatest_row (h : ds.length ≤ 8) : m_greatest_row [feedD R F ds] st = some (.own (rng (greC R F ds) ds.length), st) := by
  rw [← wp_eq]
  refine wp_mkFn (by rfl) ?_
  rw [F_greatest_row, wp_sSeq]
  generalize hK : Aft _ _ = K
  simp [e_had h]
  rw [← hK, aft_nx]
  clear hK K
  simp [wp_sFor]
  rw [enum_g]
  refine wp_for (α := Day × Nat) _ _ (fun pre env st' => st' = st ∧ ∃ (x4 x5 x6 x7 : Option D), env = [some (feedD R F ds), some (.own (rng (had F ds) ds.length)), some (.tup (ds.map dayD)), some (.own (rng (greA R F ds) pre.length)), x4, x5, x6, x7]) ⟨rfl, none, none, none, none, by simp [rng, greA_0]⟩ ?_ ?_
  · rintro pre d post env st' e ⟨rfl, x4, x5, x6, x7, rfl⟩
    obtain ⟨h1, h2⟩ := zipIdx_at e
    have h3 := (mem_split_len e).1
    rw [List.length_zipIdx] at h3
    have hx : L2.atI (rng (had F ds) ds.length) ((d.2 : Int) + 1) = some (.int (had F ds (d.2 + 1))) := by
      rw [show ((d.2 : Int) + 1) = ((d.2 + 1 : Nat) : Int) by omega, rng_at (by omega)]
    rw [h1] at hx
    have hr : greA R F ds (pre.length + 1) = if had F ds (pre.length + 1) < greA R F ds pre.length + d.1.hi then had F ds (pre.length + 1) else greA R F ds pre.length + d.1.hi := by
      rw [greA_succ (by omega), dA_get h2]
      split <;> omega
    simp [dayD, h1, hx, rng_last, rng_len, rng_ofs, ← hr, rng_snoc]
    omega
  · rintro env st' ⟨rfl, x4, x5, x6, x7, rfl⟩
    rw [List.length_zipIdx]
    simp [wp_sFor, okR]
    refine ⟨by omega, ?_⟩
    rw [steps_eq]
    refine wp_for (α := Nat) _ _ (fun (pre : List Nat) env st2 => st2 = st' ∧ ∃ (x4 : Option D), env = [some (feedD R F ds), some (.own (rng (had F ds) ds.length)), some (.tup (ds.map dayD)), some (.own (rng (fun j => if ds.length - pre.length ≤ j then greC R F ds j else greA R F ds j) ds.length)), x4, x5, x6, x7]) ⟨rfl, x4, ?_⟩ ?_ ?_
    · rw [rng_congr (f := greA R F ds)]
      intro j hj
      dsimp only [List.length_nil]
      split
      · have : j = ds.length := by omega
        subst this
        exact greC_last.symm
      · rfl
    · rintro pre i post env st2 e ⟨rfl, x4, rfl⟩
      obtain ⟨ei, hi⟩ := range_split e
      subst ei
      obtain ⟨k, hk⟩ : ∃ k : Nat, (ds.length : Int) - 1 + (pre.length : Int) * -1 = (k : Int) := ⟨ds.length - 1 - pre.length, by omega⟩
      have hk2 : k < ds.length := by omega
      have hk3 : ds.length - pre.length = k + 1 := by omega
      rw [hk, hk3]
      generalize hf : (fun j => if k + 1 ≤ j then greC R F ds j else greA R F ds j) = f
      have f1 : f k = greA R F ds k := by rw [← hf]; exact if_neg (by omega)
      have f2 : f (k + 1) = greC R F ds (k + 1) := by rw [← hf]; simp
      have a1 : L2.atI (rng f ds.length) (k : Int) = some (.int (f k)) := rng_at (by omega)
      have a2 : L2.atI (rng f ds.length) ((k : Int) + 1) = some (.int (f (k + 1))) := by
        rw [show ((k : Int) + 1) = ((k + 1 : Nat) : Int) by omega, rng_at (by omega)]
      have a3 : L2.atI (ds.map dayD) (k : Int) = some (dayD ds[k]) := by
        rw [atI_nat]; simp [hk2]
      have a4 : L2.ixN (ds.length + 1) (k : Int) = some k := by
        unfold L2.ixN
        simp
        omega
      have hr : greC R F ds k = if f (k + 1) - ds[k].lo < f k then f (k + 1) - ds[k].lo else f k := by
        rw [greC_step hk2, dA_get (List.getElem?_eq_getElem hk2), f1, f2]
        split <;> omega
      simp [a1, a2, a3, a4, ix_day1, rng_ofs, rng_len, ← hr]
      rw [rng_set (by omega)]
      refine rng_congr fun j hj => ?_
      rw [← hf]
      dsimp only
      by_cases e1 : j = k
      · subst e1
        rw [if_pos rfl, if_pos (by omega)]
      · rw [if_neg e1]
        by_cases e2 : k + 1 ≤ j
        · rw [if_pos e2, if_pos (by omega)]
        · rw [if_neg e2, if_neg (by omega)]
    · rintro env st2 ⟨rfl, x4, rfl⟩
      simp
      try exact rng_congr fun j hj => by simp
theorem e_check_run_there (h : ds.length ≤ 8) (g : Good R F ds) : m_check_run_there [feedD R F ds] st = some (.non, st) := by
  rw [← wp_eq]
  refine wp_mkFn (by rfl) ?_
  simp [F_check_run_there, e_first_stretch_of h, good_bad.mp g, stO]
theorem e_check_day (h : FeedSm R F ds) {j : Nat} (hj : j < ds.length) : m_check_day [feedD R F ds, .int j] st = some (.non, st) := by
  rw [← wp_eq]
  refine wp_mkFn (by rfl) ?_
  simp [F_check_day, e_check_feed h, e_is_position hj]
def greRun (R F : Int) (ds : List Day) : List Int := runZ ds (greC R F ds)
theorem e_greatest_run (h : FeedSm R F ds) (g : Good R F ds) : m_greatest_run [feedD R F ds] st = some (.own ((greRun R F ds).map .int), st) := by
  have h8 := h.n1
  rw [← wp_eq]
  refine wp_mkFn (by rfl) ?_
  simp [F_greatest_run, e_check_feed h, e_check_run_there h8 g, e_greatest_row h8, rng_fzs, e_steps_of (f := greC R F ds) (m := ds.length) (by omega)]
  simp [greRun, runZ]
theorem e_totals (h : FeedSm R F ds) (g : Good R F ds) : m_totals [feedD R F ds] st = some (.tup [.int (rowC R F ds ds.length), .int (greC R F ds ds.length)], st) := by
  have h8 := h.n1
  rw [← wp_eq]
  refine wp_mkFn (by rfl) ?_
  simp [F_totals, e_check_feed h, e_check_run_there h8 g, e_greatest_row h8, e_least_row h8, rng_ofs, rng_last]
theorem rng_at1 {f : Nat → Int} {m j : Nat} (h : j + 1 ≤ m) : L2.atI (rng f m) ((j : Int) + 1) = some (.int (f (j + 1))) := by
  rw [show ((j : Int) + 1) = ((j + 1 : Nat) : Int) by omega, rng_at h]
theorem e_stores_there (h : FeedSm R F ds) (g : Good R F ds) {j : Nat} (hj : j < ds.length) : m_stores_there [feedD R F ds, .int j] st = some (.tup [.int (had F ds (j + 1) - greC R F ds (j + 1)), .int (had F ds (j + 1) - rowC R F ds (j + 1))], st) := by
  have h8 := h.n1
  rw [← wp_eq]
  refine wp_mkFn (by rfl) ?_
  simp [F_stores_there, e_check_day h hj, e_check_run_there h8 g, e_greatest_row h8, e_least_row h8, e_had h8, rng_ofs, rng_at1 (show j + 1 ≤ ds.length by omega)]
def tkL (R F : Int) (ds : List Day) (j : Nat) : Int := max (dA ds j).lo (rowC R F ds (j + 1) - greC R F ds j)
def tkH (R F : Int) (ds : List Day) (j : Nat) : Int := min (dA ds j).hi (greC R F ds (j + 1) - rowC R F ds j)
def tkD (R F : Int) (ds : List Day) (j : Nat) : D := .tup [.int (tkL R F ds j), .int (tkH R F ds j)]
theorem e_takes_of (h8 : ds.length ≤ 8) {j : Nat} (hj : j < ds.length) : m_takes_of [feedD R F ds, .int j] st = some (tkD R F ds j, st) := by
  rw [← wp_eq]
  refine wp_mkFn (by rfl) ?_
  have e : L2.atI (ds.map dayD) (j : Int) = some (dayD ds[j]) := by rw [atI_nat]; simp [hj]
  have ed := dA_get (List.getElem?_eq_getElem hj)
  have hq : seqOf (dayD ds[j]) = some [.int ds[j].b, .int ds[j].lo, .int ds[j].hi] := rfl
  have m1 : (if ds[j].lo < rowC R F ds (j + 1) - greC R F ds j then rowC R F ds (j + 1) - greC R F ds j else ds[j].lo) = tkL R F ds j := by
    unfold tkL; rw [ed]; split <;> omega
  have m2 : (if greC R F ds (j + 1) - rowC R F ds j < ds[j].hi then greC R F ds (j + 1) - rowC R F ds j else ds[j].hi) = tkH R F ds j := by
    unfold tkH; rw [ed]; split <;> omega
  simp [F_takes_of, e, hq, setAll, e_greatest_row h8, e_least_row h8, rng_ofs, rng_at1 (show j + 1 ≤ ds.length by omega), rng_at (show j ≤ ds.length by omega), m1, m2, tkD]
theorem e_takes (h : FeedSm R F ds) (g : Good R F ds) {j : Nat} (hj : j < ds.length) : m_takes [feedD R F ds, .int j] st = some (tkD R F ds j, st) := by
  rw [← wp_eq]
  refine wp_mkFn (by rfl) ?_
  simp [F_takes, e_check_day h hj, e_check_run_there h.n1 g, e_takes_of h.n1 hj]
def forcL (R F : Int) (ds : List Day) : List Nat := (List.range ds.length).filter fun j => decide (tkL R F ds j = tkH R F ds j)
theorem e_forced (h : FeedSm R F ds) (g : Good R F ds) : m_forced [feedD R F ds] st = some (.tup ((forcL R F ds).map fun (j : Nat) => .int j), st) := by
  have h8 := h.n1
  rw [← wp_eq]
  refine wp_mkFn (by rfl) ?_
  simp [F_forced, e_check_feed h, e_check_run_there h8 g, wp_fComp, okAt, wipeE, restE, okR]
  refine ⟨by omega, ?_⟩
  rw [steps_eq]
  refine wp_each (α := Nat) _ _ (fun j => tkD R F ds j) (fun j hj => ?_) ?_
  · have hj := List.mem_range.mp hj
    simp [e_takes_of h8 hj, wipeE]
  · have hz : D.fzs ((List.range ds.length).map fun j => tkD R F ds j) = (List.range ds.length).map (tkD R F ds) := by simp [tkD]
    simp [hz, wp_fComp, okAt, wipeE, restE]
    refine ⟨by omega, ?_⟩
    rw [enum_g]
    refine wp_map (α := Nat × Nat) _ _ (fun p => decide (tkL R F ds p.1 = tkH R F ds p.1)) (fun p => .int (p.2 : Nat)) (fun p hp => ?_) ?_
    · simp [tkD, wipeE]
      exact (Decidable.em _).symm
    · have hm : ((List.range ds.length).zipIdx.filter fun p => decide (tkL R F ds p.1 = tkH R F ds p.1)).map (fun p => D.int (p.2 : Nat)) = (forcL R F ds).map fun (j : Nat) => D.int j := by
        rw [range_idx, List.filter_map, List.map_map]
        rfl
      rw [hm]
      have hl : (forcL R F ds).length ≤ ds.length := by
        unfold forcL
        refine Nat.le_trans (List.length_filter_le _ _) ?_
        simp
      simp
      omega
end
end Pv.K64

/-! # R16 -/
set_option Elab.async false
set_option linter.all false
set_option maxHeartbeats 2000000
set_option maxRecDepth 10000
namespace Pv
open PySem
/-- every value kept, the frame's values going on -/
theorem wp_eachE {env : Env} {st : Ms} {f : ES} {gs : GS} {vs : List Nat} {Q : List D × Env × Ms → Prop} {α : Type} (xs : List α) (g : α → D) (v : α → D) (I : Env → Prop) (h0 : I env)
    (h : ∀ x ∈ xs, ∀ env, I env → Wp (gs (g x) env) fun e => Wp (f e st) fun z => z.1 = v x ∧ z.2.2 = st ∧ I (wipeE z.2.1 vs))
    (q : ∀ env, I env → Q (xs.map v, env, st)) : Wp (compF gs bYes f vs (xs.map g) env st) Q := by
  induction xs generalizing env Q with
  | nil => exact ⟨_, rfl, q env h0⟩
  | cons x xs ih =>
    show Wp ((gs (g x) env).bind fun env1 => (bYes env1 st).bind fun x => if x.1 = true then (f x.2.1 x.2.2).bind fun y => (compF gs bYes f vs (xs.map g) (wipeE y.2.1 vs) y.2.2).map fun z => (y.1 :: z.1, z.2) else compF gs bYes f vs (xs.map g) (wipeE x.2.1 vs) x.2.2) Q
    rw [wp_bind]
    refine (h x List.mem_cons_self env h0).mono fun e q1 => ?_
    simp only [wp_bind, wp_bYes, if_true]
    refine q1.mono fun z ⟨z1, z2, z3⟩ => ?_
    rw [wp_map', z2]
    refine ih z3 (fun y hy => h y (List.mem_cons_of_mem _ hy)) fun env' hi => ?_
    rw [z1]
    exact q env' hi
/-- the first value changes the frame, the others keep it -/
theorem wp_each1 {env env1 : Env} {st : Ms} {f : ES} {gs : GS} {vs : List Nat} {Q : List D × Env × Ms → Prop} {α : Type} (xs : List α) (hne : xs ≠ []) (g : α → D) (v : α → D)
    (h0 : ∀ x ∈ xs, Wp (gs (g x) env) fun e => Wp (f e st) fun z => z.1 = v x ∧ z.2.2 = st ∧ wipeE z.2.1 vs = env1)
    (h1 : ∀ x ∈ xs, Wp (gs (g x) env1) fun e => Wp (f e st) fun z => z.1 = v x ∧ z.2.2 = st ∧ wipeE z.2.1 vs = env1)
    (q : Q (xs.map v, env1, st)) : Wp (compF gs bYes f vs (xs.map g) env st) Q := by
  cases xs with
  | nil => exact absurd rfl hne
  | cons x xs =>
    show Wp ((gs (g x) env).bind fun env1 => (bYes env1 st).bind fun x => if x.1 = true then (f x.2.1 x.2.2).bind fun y => (compF gs bYes f vs (xs.map g) (wipeE y.2.1 vs) y.2.2).map fun z => (y.1 :: z.1, z.2) else compF gs bYes f vs (xs.map g) (wipeE x.2.1 vs) x.2.2) Q
    rw [wp_bind]
    refine (h0 x List.mem_cons_self).mono fun e q1 => ?_
    simp only [wp_bind, wp_bYes, if_true]
    refine q1.mono fun z ⟨z1, z2, z3⟩ => ?_
    rw [wp_map', z2, z3]
    refine wp_each xs g v (fun y hy => h1 y (List.mem_cons_of_mem _ hy)) ?_
    rw [z1]
    exact q
end Pv
namespace Pv.K64
open PySem Pv Pv.Feeds
def S0 : SS := (sPar 2 3 (aCons (fCl reprD (aCons (fPk 1) aNil)) (aCons (fCall m__law_runs (aCons (fVar 1) aNil)) aNil)))
def S1 : SS := (sIf (fB (fBin eqD (fPk 3) (fLst aNil))) (sRet (fBin isND (fCall m_first_run (aCons (fVar 1) aNil)) (fC .non))) sNil)
def S2 : SS := (sAsg 4 (fComp (wSeq (fVar 3)) (gN 16) bYes (fCall m__law_taken (aCons (fVar 16) aNil)) [16]))
def S3 : SS := (sAsg 5 (fComp (wRng1 (aCons (fCl lenD (aCons (fBin ixD (fPk 1) (fC (.int 3))) aNil)) aNil)) (gN 17) bYes (fCl (ex2D PySem.W.minD) (aCons (fComp (wSeq (fVar 4)) (gN 18) bYes (fBin ixD (fPk 18) (fPk 17)) [18]) aNil)) [17]))
def S4 : SS := (sAsg 6 (fComp (wRng1 (aCons (fCl lenD (aCons (fBin ixD (fPk 1) (fC (.int 3))) aNil)) aNil)) (gN 17) bYes (fCl (ex2D PySem.W.maxD) (aCons (fComp (wSeq (fVar 4)) (gN 18) bYes (fBin ixD (fPk 18) (fPk 17)) [18]) aNil)) [17]))
def S5 : SS := (sIf (bOr (fB (fBin ninD (fPk 5) (fPk 4))) (bOr (fB (fBin ninD (fPk 6) (fPk 4))) (fB (fBin neD (fBin ixD (fPk 3) (fC (.int 0))) (fBin ixD (fPk 3) (fBin idxD (fPk 4) (fPk 5))))))) (sRet (fC (.bl false))) sNil)
def S6 : SS := (sAsg 7 (fBin ixD (fPk 3) (fBin idxD (fPk 4) (fPk 6))))
def S7 : SS := (sIf (bNot (fB (fRe (fCall m__law_same (aCons (fZ (fLst (aCons (fCall m_first_run (aCons (fVar 1) aNil)) (aCons (fCall m_greatest_run (aCons (fVar 1) aNil)) (aCons (fCallK0 m_greatest_run [0] 1 (aCons (fVar 1) aNil)) aNil))))) (aCons (fZ (fLst (aCons (fBin ixD (fPk 3) (fC (.int 0))) (aCons (fVar 7) (aCons (fVar 7) aNil))))) aNil)))))) (sRet (fC (.bl false))) sNil)
def S8 : SS := (sPar 8 9 (aCons (fCall m__law_pick (aCons (fVar 0) (aCons (fVar 4) aNil))) (aCons (fCall m__law_pick (aCons (fVar 0) (aCons (fVar 4) aNil))) aNil)))
def S9 : SS := (sIf (bOr (fB (fBin ninD (fComp (wZipX (aCons (fVar 8) (aCons (fVar 9) aNil))) (gTupS (gConsS (gN 19) (gConsS (gN 20) gNilS)) 2) bYes (fCl min2D (aCons (fPk 19) (aCons (fPk 20) aNil))) [19, 20]) (fPk 4))) (fB (fBin ninD (fComp (wZipX (aCons (fVar 8) (aCons (fVar 9) aNil))) (gTupS (gConsS (gN 19) (gConsS (gN 20) gNilS)) 2) bYes (fCl max2D (aCons (fPk 19) (aCons (fPk 20) aNil))) [19, 20]) (fPk 4)))) (sRet (fC (.bl false))) sNil)
def S10 : SS := (sAsg 10 (fUn ssD (fComp (wSeq (fVar 4)) (gN 18) bYes (fBin ixD (fPk 18) (fUn negD (fC (.int 1)))) [18])))
def S11 : SS := (sIf (bOr (fB (fBin neD (fPk 10) (fLrg2 (fBin ixD (fPk 10) (fC (.int 0))) (fBin addD (fBin ixD (fPk 10) (fUn negD (fC (.int 1)))) (fC (.int 1)))))) (bNot (fB (fRe (fCall m__law_same (aCons (fZ (fLst (aCons (fCall m_totals (aCons (fVar 1) aNil)) (aCons (fCallK0 m_totals [0] 1 (aCons (fVar 1) aNil)) aNil)))) (aCons (fZ (fBin mulD (fLst (aCons (fTup (aCons (fBin ixD (fPk 10) (fC (.int 0))) (aCons (fBin ixD (fPk 10) (fUn negD (fC (.int 1)))) aNil))) aNil)) (fC (.int 2)))) aNil))))))) (sRet (fC (.bl false))) sNil)
def S12 : SS := (sAsg 11 (fLst aNil))
def S13 : SS := (sFor (wRng1 (aCons (fCl lenD (aCons (fBin ixD (fPk 1) (fC (.int 3))) aNil)) aNil)) (gN 12) (sSeq (sAsg 13 (fUn ssD (fComp (wSeq (fVar 3)) (gN 16) bYes (fBin ixD (fCall m__law_stores (aCons (fVar 1) (aCons (fVar 16) aNil))) (fPk 12)) [16]))) (sSeq (sAsg 14 (fUn ssD (fComp (wSeq (fVar 3)) (gN 16) bYes (fBin ixD (fPk 16) (fPk 12)) [16]))) (sSeq (sIf (bOr (fB (fBin neD (fPk 13) (fLrg2 (fBin ixD (fPk 13) (fC (.int 0))) (fBin addD (fBin ixD (fPk 13) (fUn negD (fC (.int 1)))) (fC (.int 1)))))) (fB (fBin neD (fPk 14) (fLrg2 (fBin ixD (fPk 14) (fC (.int 0))) (fBin addD (fBin ixD (fPk 14) (fUn negD (fC (.int 1)))) (fC (.int 1))))))) (sRet (fC (.bl false))) sNil) (sSeq (sAsg 15 (fLst (aCons (fCall m__law_ends (aCons (fVar 13) aNil)) (aCons (fCall m__law_ends (aCons (fVar 14) aNil)) aNil)))) (sSeq (sIf (bNot (fB (fRe (fCall m__law_same (aCons (fZ (fLst (aCons (fLst (aCons (fCall m_stores_there (aCons (fVar 1) (aCons (fVar 12) aNil))) (aCons (fCall m_takes (aCons (fVar 1) (aCons (fVar 12) aNil))) aNil))) (aCons (fLst (aCons (fCallK0 m_stores_there [1, 0] 2 (aCons (fVar 12) (aCons (fVar 1) aNil))) (aCons (fCallK0 m_takes [1, 0] 2 (aCons (fVar 12) (aCons (fVar 1) aNil))) aNil))) aNil)))) (aCons (fZ (fLst (aCons (fVar 15) (aCons (fVar 15) aNil)))) aNil)))))) (sRet (fC (.bl false))) sNil) (sExt 11 (fZ (fIf (fB (fBin eqD (fCl lenD (aCons (fPk 14) aNil)) (fC (.int 1)))) (fLst (aCons (fVar 12) aNil)) (fLst aNil))))))))))
def S14 : SS := (sRet (fAnd (fRe (fCall m__law_same (aCons (fZ (fLst (aCons (fCall m_forced (aCons (fVar 1) aNil)) (aCons (fCallK0 m_forced [0] 1 (aCons (fVar 1) aNil)) aNil)))) (aCons (fZ (fBin mulD (fZ (fLst (aCons (fCl tupD (aCons (fPk 11) aNil)) aNil))) (fC (.int 2)))) aNil)))) (fBin eqD (fCl reprD (aCons (fPk 1) aNil)) (fPk 2))))
theorem S_eq : F__law_one_right = sSeq S0 (sSeq S1 (sSeq S2 (sSeq S3 (sSeq S4 (sSeq S5 (sSeq S6 (sSeq S7 (sSeq S8 (sSeq S9 (sSeq S10 (sSeq S11 (sSeq S12 (sSeq S13 S14))))))))))))) := rfl
section
variable {R F : Int} {ds : List Day} {st : Ms} {c : Nat} {s : Str} {Q : Fl → Prop} {x0 x1 x2 x3 x4 x5 x6 x7 x8 x9 x10 x11 x12 x13 x14 x15 x16 x17 x18 x19 x20 : Option D}
theorem isE {α : Type} {l : List α} (h : ¬ l = []) : l.isEmpty = false := by cases l <;> simp_all
@[simp] theorem runD_of {r : List Int} : (runD r).of = true := by simp [runD]
theorem eqD_nil_runs {rs : List (List Int)} : eqD st (.own (rs.map runD)) (.own []) = some (.bl rs.isEmpty) := by
  rw [eqD_nil_own (by simp [runD]) (by simp [runD]) dep_runs]
  simp
theorem lmin_eq {l : List Int} {m : Int} (h : m ∈ l) (h2 : ∀ t ∈ l, m ≤ t) : lmin l = m := by
  obtain ⟨a, b⟩ := lmin_spec (l := l) (by rintro rfl; exact nomatch h)
  have := h2 _ a
  have := b _ h
  omega
theorem lmax_eq {l : List Int} {m : Int} (h : m ∈ l) (h2 : ∀ t ∈ l, t ≤ m) : lmax l = m := by
  obtain ⟨a, b⟩ := lmax_spec (l := l) (by rintro rfl; exact nomatch h)
  have := h2 _ a
  have := b _ h
  omega
theorem ne_runD {a b : List Int} : neD st (runD a) (runD b) = some (.bl (!decide (a = b))) := by
  unfold runD
  rw [neD_sq rfl rfl (by simp) (by simp) (by simp) (by simp) (by simp) (by simp)]
  simp [eqvAll_ints]
theorem pys_runs {rs : List (List Int)} : D.pys (rs.map runD) = rs.map fun r => .list (r.map fun i => .int i) := by
  rw [pys_map]
  refine List.map_congr_left fun r _ => ?_
  simp [runD]
theorem dep1 {rs : List (List Int)} : PyData.depthAll (rs.map fun r => PyData.list (r.map fun i => .int i)) ≤ 1 := depAll_map fun r _ => by simp
theorem eqv_l {a b : List Int} : PyData.eqv (.list (a.map fun i => .int i)) (.list (b.map fun i => .int i)) = decide (a = b) := by simp [eqvAll_ints]
theorem nin_rows {L : List Int} {rs : List (List Int)} {d : D} (hd : d = .own (L.map .int) ∨ d = .lst (L.map .int)) : ninD st d (.lst (rs.map runD)) = some (.bl (!decide (L ∈ rs))) := by
  have hp : d.py = .list (L.map fun i => .int i) := by rcases hd with rfl | rfl <;> simp
  have hn : d.nc = true := by rcases hd with rfl | rfl <;> simp
  have hdp := dep1 (rs := rs)
  unfold ninD memD
  show (some (rs.map runD)).bind _ = _
  rw [Option.bind_some, if_pos ⟨hn, by simp [runD], by rw [hp]; simp [SeqAt.shaped], by rw [pys_runs]; simp [SeqAt.shaped]; omega⟩, hp, pys_runs, List.any_map]
  congr 2
  have : (rs.any ((fun z => PyData.eqv z (.list (L.map fun i => .int i))) ∘ fun r => PyData.list (r.map fun i => .int i))) = decide (L ∈ rs) := by
    rw [Bool.eq_iff_iff, List.any_eq_true, decide_eq_true_eq]
    constructor
    · rintro ⟨r, hr, e⟩
      simp only [Function.comp_apply, eqv_l, decide_eq_true_eq] at e
      exact e ▸ hr
    · intro hL
      exact ⟨L, hL, by simp only [Function.comp_apply, eqv_l, decide_true]⟩
  rw [this]
  cases decide (L ∈ rs) <;> rfl
theorem idx_rows {L : List Int} {rs : List (List Int)} {d : D} (hd : d = .own (L.map .int) ∨ d = .lst (L.map .int)) (hL : L ∈ rs) : ∃ j : Nat, idxD st (.lst (rs.map runD)) d = some (.int j) ∧ rs[j]? = some L := by
  have hp : d.py = .list (L.map fun i => .int i) := by rcases hd with rfl | rfl <;> simp
  have hn : d.nc = true := by rcases hd with rfl | rfl <;> simp
  have hdp := dep1 (rs := rs)
  cases hf : (rs.map fun r => PyData.list (r.map fun i => .int i)).findIdx? fun z => PyData.eqv z (.list (L.map fun i => .int i)) with
  | none =>
    rw [List.findIdx?_eq_none_iff] at hf
    have := hf _ (List.mem_map.mpr ⟨L, hL, rfl⟩)
    rw [eqv_l] at this
    simp at this
  | some j =>
    refine ⟨j, ?_, ?_⟩
    · unfold idxD
      show (some (rs.map runD)).bind _ = _
      rw [Option.bind_some, if_pos ⟨hn, by simp [runD], by rw [hp]; simp [SeqAt.shaped], by rw [pys_runs]; simp [SeqAt.shaped]; omega⟩, hp, pys_runs, hf]
      rfl
    · rw [List.findIdx?_eq_some_iff_getElem] at hf
      obtain ⟨hj, e, _⟩ := hf
      rw [List.getElem_map, eqv_l, decide_eq_true_eq] at e
      rw [List.length_map] at hj
      rw [List.getElem?_eq_getElem hj, e]
theorem good_fe (h : FeedOk R F ds) (g : Good R F ds) : ∃ z, Fe R F ds z := by
  obtain ⟨ts, ht⟩ := (can_rn (R := R) (F := F) h.r0 h.lh).mp ((can_good h.f0 h.f1 h.lh).mpr g)
  exact ⟨_, fe_of ht⟩
theorem gre_run (h : FeedOk R F ds) (g : Good R F ds) : greRun R F ds ∈ runsOf R F ds := by
  obtain ⟨z, hz⟩ := good_fe h g
  exact mem_runs.mpr (gre_fe h.lh hz).rn
theorem lea_eq (h : FeedOk R F ds) (g : Good R F ds) : leastRun R F ds = runZ ds (rowC R F ds) := rfl
theorem lea_run (h : FeedOk R F ds) (g : Good R F ds) : leastRun R F ds ∈ runsOf R F ds := by
  obtain ⟨z, hz⟩ := good_fe h g
  exact mem_runs.mpr (lea_fe h.lh hz).rn
theorem cumL_len {r : List Int} (h : r.length = ds.length) : cumL r = (List.range ds.length).map fun j => cum r (j + 1) := by
  unfold cumL; rw [h]
theorem cumL_inj {r t : List Int} (h1 : r.length = ds.length) (h2 : t.length = ds.length) (e : cumL r = cumL t) : r = t := by
  refine cum_inj h1 h2 fun j hj => ?_
  cases j with
  | zero => rfl
  | succ j =>
    rw [cumL_len h1, cumL_len h2] at e
    have := congrArg (fun l => l[j]?) e
    simpa [show j < ds.length by omega] using this
def rowsL (R F : Int) (ds : List Day) : List (List Int) := (runsOf R F ds).map cumL
theorem FeedOk.cnt (h : FeedOk R F ds) : (runsOf R F ds).length ≤ 1024 := by
  have a := runsF_len (R := R) (k := 4) ds [([], F)] fun d hd => by
    have hx := h.day d hd
    have := hx.w
    omega
  have c : 4 ^ ds.length ≤ 4 ^ 5 := Nat.pow_le_pow_right (by decide) h.n1
  unfold runsOf
  rw [List.length_map]
  simp at a
  omega
theorem run_len {r : List Int} (hr : r ∈ runsOf R F ds) : r.length = ds.length := rn_len (mem_runs.mp hr)
end
end Pv.K64

/-! # R17 -/
set_option Elab.async false
set_option linter.all false
set_option maxHeartbeats 2000000
set_option maxRecDepth 10000
namespace Pv.K64
open PySem Pv Pv.Feeds
section
variable {R F : Int} {ds : List Day} {st : Ms} {c : Nat} {s : Str} {Q : Fl → Prop} {x0 x1 x2 x3 x4 x5 x6 x7 x8 x9 x10 x11 x12 x13 x14 x15 x16 x17 x18 x19 x20 : Option D}
theorem w_S0 (h : FeedOk R F ds) (hs : ∀ st, reprD st [feedD R F ds] = some (.str s)) (q : Q (.nx [x0, some (feedD R F ds), some (.str s), some (.own ((runsOf R F ds).map runD)), x4, x5, x6, x7, x8, x9, x10, x11, x12, x13, x14, x15, x16, x17, x18, x19, x20] st)) :
    Wp (S0 [x0, some (feedD R F ds), x2, x3, x4, x5, x6, x7, x8, x9, x10, x11, x12, x13, x14, x15, x16, x17, x18, x19, x20] st) Q := by
  simpa [S0, hs, e_runs h, setAll] using q
theorem w_S1 (h : FeedOk R F ds) (q0 : ¬ Good R F ds → Q (.rt (.bl true) st)) (q : Good R F ds → runsOf R F ds ≠ [] → Q (.nx [x0, some (feedD R F ds), x2, some (.own ((runsOf R F ds).map runD)), x4, x5, x6, x7, x8, x9, x10, x11, x12, x13, x14, x15, x16, x17, x18, x19, x20] st)) :
    Wp (S1 [x0, some (feedD R F ds), x2, some (.own ((runsOf R F ds).map runD)), x4, x5, x6, x7, x8, x9, x10, x11, x12, x13, x14, x15, x16, x17, x18, x19, x20] st) Q := by
  by_cases hr : runsOf R F ds = []
  · have hg : ¬ Good R F ds := fun g => (good_runs h).mp g hr
    have hb : badL R F ds ≠ [] := fun z => hg (good_bad.mpr z)
    have hn := eqD_nil_runs (st := st) (rs := [])
    simp at hn
    rw [hr]
    simp [S1, hn, e_first_run h.sm, hb]
    exact q0 hg
  · have hn := eqD_nil_runs (st := st) (rs := runsOf R F ds)
    rw [isE hr] at hn
    simp [S1, hn]
    exact q ((good_runs h).mpr hr) hr
theorem fzs_rows : D.fzs ((rowsL R F ds).map fun r => .own (r.map .int)) = (rowsL R F ds).map runD := by
  rw [fzs_eq, List.map_map]
  refine List.map_congr_left fun r _ => ?_
  simp [runD]
theorem w_S2 (h : FeedOk R F ds) (q : ∀ d4, d4.fz = .lst ((rowsL R F ds).map runD) → Q (.nx [x0, x1, x2, some (.lst ((runsOf R F ds).map runD)), some d4, x5, x6, x7, x8, x9, x10, x11, x12, x13, x14, x15, none, x17, x18, x19, x20] st)) :
    Wp (S2 [x0, x1, x2, some (.own ((runsOf R F ds).map runD)), x4, x5, x6, x7, x8, x9, x10, x11, x12, x13, x14, x15, none, x17, x18, x19, x20] st) Q := by
  have hc := h.cnt
  have h5 := h.n1
  simp [S2, wp_fComp, okAt, wipeE, restE]
  refine wp_each (α := List Int) (runsOf R F ds) _ (fun r => .own ((cumL r).map .int)) (fun r hr => ?_) ?_
  · have hl := run_len hr
    have e := e_law_taken (st := st) (ts := r) (by omega)
    simp [runD, e, wipeE]
  · refine ⟨by simp; omega, ?_⟩
    have := q (.own ((rowsL R F ds).map fun r => .own (r.map .int))) (by rw [fz_own, fzs_rows])
    unfold rowsL at this
    rw [List.map_map] at this
    exact ⟨by simp, this⟩
def leL (R F : Int) (ds : List Day) : List Int := cumL (leastRun R F ds)
def moL (R F : Int) (ds : List Day) : List Int := cumL (greRun R F ds)
theorem gre_len : (greRun R F ds).length = ds.length := by simp [greRun, runZ]
theorem lea_len : (leastRun R F ds).length = ds.length := by simp [leastRun]
theorem at_row {r : List Int} (hl : r.length = ds.length) {j : Nat} (hj : j < ds.length) : L2.atI ((cumL r).map D.int) (j : Int) = some (.int (cum r (j + 1))) := by
  rw [atI_nat, cumL_len hl]
  simp [hj]
theorem cum_lea (h : FeedOk R F ds) (g : Good R F ds) {j : Nat} (hj : j ≤ ds.length) : cum (leastRun R F ds) j = rowC R F ds j := by
  obtain ⟨z, hz⟩ := good_fe h g
  have := cum_least (R := R) (F := F) hj
  rw [this, (lea_fe h.lh hz).z0]
  omega
theorem cum_gre (h : FeedOk R F ds) (g : Good R F ds) {j : Nat} (hj : j ≤ ds.length) : cum (greRun R F ds) j = greC R F ds j := by
  obtain ⟨z, hz⟩ := good_fe h g
  exact cum_runZ (gre_fe h.lh hz).z0 hj
theorem le_col (h : FeedOk R F ds) (g : Good R F ds) : (List.range ds.length).map (fun j => lmin ((runsOf R F ds).map fun r => cum r (j + 1))) = leL R F ds := by
  unfold leL
  rw [cumL_len lea_len]
  refine List.map_congr_left fun j hj => ?_
  have hj := List.mem_range.mp hj
  refine lmin_eq (List.mem_map.mpr ⟨_, lea_run h g, rfl⟩) fun t ht => ?_
  obtain ⟨r, hr, rfl⟩ := List.mem_map.mp ht
  rw [cum_lea h g (by omega)]
  exact lea_le (fe_of (mem_runs.mp hr)) (by omega)
theorem mo_col (h : FeedOk R F ds) (g : Good R F ds) : (List.range ds.length).map (fun j => lmax ((runsOf R F ds).map fun r => cum r (j + 1))) = moL R F ds := by
  unfold moL
  rw [cumL_len gre_len]
  refine List.map_congr_left fun j hj => ?_
  have hj := List.mem_range.mp hj
  refine lmax_eq (List.mem_map.mpr ⟨_, gre_run h g, rfl⟩) fun t ht => ?_
  obtain ⟨r, hr, rfl⟩ := List.mem_map.mp ht
  rw [cum_gre h g (by omega)]
  exact gre_ge (fe_of (mem_runs.mp hr)) (by omega)
theorem w_S3 (h : FeedOk R F ds) (g : Good R F ds) {d4 : D} (hd : d4.fz = .lst ((rowsL R F ds).map runD)) (q : Q (.nx [x0, some (feedD R F ds), x2, x3, some (.lst ((rowsL R F ds).map runD)), some (.own ((leL R F ds).map .int)), x6, x7, x8, x9, x10, x11, x12, x13, x14, x15, x16, none, none, x19, x20] st)) :
    Wp (S3 [x0, some (feedD R F ds), x2, x3, some d4, x5, x6, x7, x8, x9, x10, x11, x12, x13, x14, x15, x16, none, none, x19, x20] st) Q := by
  have hc := h.cnt
  have h5 := h.n1
  have h0 := h.n0
  have hne := (good_runs h).mp g
  have hfl : (D.lst ((rowsL R F ds).map runD)).fz = .lst ((rowsL R F ds).map runD) := by simp
  simp [S3, wp_fComp, okAt, wipeE, restE, okR]
  refine ⟨by omega, ?_⟩
  rw [steps_eq]
  have hrow : (rowsL R F ds).map runD = (runsOf R F ds).map fun r => runD (cumL r) := by unfold rowsL; rw [List.map_map]; rfl
  have hin : ∀ j, j < ds.length → ∀ d : D, d.fz = .lst ((rowsL R F ds).map runD) → Wp (fCl (ex2D PySem.W.minD) (aCons (fComp (wSeq (fVar 4)) (gN 18) bYes (fBin ixD (fPk 18) (fPk 17)) [18]) aNil) [x0, some (feedD R F ds), x2, x3, some d, x5, x6, x7, x8, x9, x10, x11, x12, x13, x14, x15, x16, some (.int j), none, x19, x20] st) fun z => z.1 = .int (lmin ((runsOf R F ds).map fun r => cum r (j + 1))) ∧ z.2.2 = st ∧ z.2.1 = [x0, some (feedD R F ds), x2, x3, some (.lst ((rowsL R F ds).map runD)), x5, x6, x7, x8, x9, x10, x11, x12, x13, x14, x15, x16, some (.int j), none, x19, x20] := fun j hj d hd => by
    simp [wp_fComp, okAt, wipeE, restE, hd]
    rw [hrow]
    refine wp_each (α := List Int) (runsOf R F ds) _ (fun r => .int (cum r (j + 1))) (fun r hr => ?_) ?_
    · simp [runD, at_row (run_len hr) hj, wipeE]
    · have e0 : (runsOf R F ds).map (fun r => D.int (cum r (j + 1))) = ((runsOf R F ds).map fun r => cum r (j + 1)).map .int := by rw [List.map_map]; rfl
      rw [e0]
      refine ⟨by simp; omega, wp_step (ex_min (st := st) (by simpa using hne)) ?_⟩
      simp
  refine wp_each1 (α := Nat) (env1 := [x0, some (feedD R F ds), x2, x3, some (.lst ((rowsL R F ds).map runD)), x5, x6, x7, x8, x9, x10, x11, x12, x13, x14, x15, x16, none, none, x19, x20]) (List.range ds.length) (fun z => by rw [List.range_eq_nil] at z; omega) _ (fun j => .int (lmin ((runsOf R F ds).map fun r => cum r (j + 1)))) (fun j hj => ?_) (fun j hj => ?_) ?_
  · simp only [Int.mul_one, Int.zero_add]
    rw [gN_ev, if_pos (by simp), wp_some]
    simp only [List.set_cons_succ, List.set_cons_zero]
    refine (hin j (List.mem_range.mp hj) d4 hd).mono fun z ⟨z1, z2, z3⟩ => ⟨z1, z2, by rw [z3]; simp [wipeE]⟩
  · simp only [Int.mul_one, Int.zero_add]
    rw [gN_ev, if_pos (by simp), wp_some]
    simp only [List.set_cons_succ, List.set_cons_zero]
    refine (hin j (List.mem_range.mp hj) _ hfl).mono fun z ⟨z1, z2, z3⟩ => ⟨z1, z2, by rw [z3]; simp [wipeE]⟩
  · have e0 : (List.range ds.length).map (fun j => D.int (lmin ((runsOf R F ds).map fun r => cum r (j + 1)))) = (leL R F ds).map .int := by rw [← le_col h g, List.map_map]; rfl
    rw [e0]
    have hl : (leL R F ds).length = ds.length := by rw [← le_col h g]; simp
    refine ⟨by simp [hl]; omega, ?_⟩
    simpa using q
theorem w_S4 (h : FeedOk R F ds) (g : Good R F ds) {d4 : D} (hd : d4.fz = .lst ((rowsL R F ds).map runD)) (q : Q (.nx [x0, some (feedD R F ds), x2, x3, some (.lst ((rowsL R F ds).map runD)), x5, some (.own ((moL R F ds).map .int)), x7, x8, x9, x10, x11, x12, x13, x14, x15, x16, none, none, x19, x20] st)) :
    Wp (S4 [x0, some (feedD R F ds), x2, x3, some d4, x5, x6, x7, x8, x9, x10, x11, x12, x13, x14, x15, x16, none, none, x19, x20] st) Q := by
  have hc := h.cnt
  have h5 := h.n1
  have h0 := h.n0
  have hne := (good_runs h).mp g
  have hfl : (D.lst ((rowsL R F ds).map runD)).fz = .lst ((rowsL R F ds).map runD) := by simp
  simp [S4, wp_fComp, okAt, wipeE, restE, okR]
  refine ⟨by omega, ?_⟩
  rw [steps_eq]
  have hrow : (rowsL R F ds).map runD = (runsOf R F ds).map fun r => runD (cumL r) := by unfold rowsL; rw [List.map_map]; rfl
  have hin : ∀ j, j < ds.length → ∀ d : D, d.fz = .lst ((rowsL R F ds).map runD) → Wp (fCl (ex2D PySem.W.maxD) (aCons (fComp (wSeq (fVar 4)) (gN 18) bYes (fBin ixD (fPk 18) (fPk 17)) [18]) aNil) [x0, some (feedD R F ds), x2, x3, some d, x5, x6, x7, x8, x9, x10, x11, x12, x13, x14, x15, x16, some (.int j), none, x19, x20] st) fun z => z.1 = .int (lmax ((runsOf R F ds).map fun r => cum r (j + 1))) ∧ z.2.2 = st ∧ z.2.1 = [x0, some (feedD R F ds), x2, x3, some (.lst ((rowsL R F ds).map runD)), x5, x6, x7, x8, x9, x10, x11, x12, x13, x14, x15, x16, some (.int j), none, x19, x20] := fun j hj d hd => by
    simp [wp_fComp, okAt, wipeE, restE, hd]
    rw [hrow]
    refine wp_each (α := List Int) (runsOf R F ds) _ (fun r => .int (cum r (j + 1))) (fun r hr => ?_) ?_
    · simp [runD, at_row (run_len hr) hj, wipeE]
    · have e0 : (runsOf R F ds).map (fun r => D.int (cum r (j + 1))) = ((runsOf R F ds).map fun r => cum r (j + 1)).map .int := by rw [List.map_map]; rfl
      rw [e0]
      refine ⟨by simp; omega, wp_step (ex_max (st := st) (by simpa using hne)) ?_⟩
      simp
  refine wp_each1 (α := Nat) (env1 := [x0, some (feedD R F ds), x2, x3, some (.lst ((rowsL R F ds).map runD)), x5, x6, x7, x8, x9, x10, x11, x12, x13, x14, x15, x16, none, none, x19, x20]) (List.range ds.length) (fun z => by rw [List.range_eq_nil] at z; omega) _ (fun j => .int (lmax ((runsOf R F ds).map fun r => cum r (j + 1)))) (fun j hj => ?_) (fun j hj => ?_) ?_
  · simp only [Int.mul_one, Int.zero_add]
    rw [gN_ev, if_pos (by simp), wp_some]
    simp only [List.set_cons_succ, List.set_cons_zero]
    refine (hin j (List.mem_range.mp hj) d4 hd).mono fun z ⟨z1, z2, z3⟩ => ⟨z1, z2, by rw [z3]; simp [wipeE]⟩
  · simp only [Int.mul_one, Int.zero_add]
    rw [gN_ev, if_pos (by simp), wp_some]
    simp only [List.set_cons_succ, List.set_cons_zero]
    refine (hin j (List.mem_range.mp hj) _ hfl).mono fun z ⟨z1, z2, z3⟩ => ⟨z1, z2, by rw [z3]; simp [wipeE]⟩
  · have e0 : (List.range ds.length).map (fun j => D.int (lmax ((runsOf R F ds).map fun r => cum r (j + 1)))) = (moL R F ds).map .int := by rw [← mo_col h g, List.map_map]; rfl
    rw [e0]
    have hl : (moL R F ds).length = ds.length := by rw [← mo_col h g]; simp
    refine ⟨by simp [hl]; omega, ?_⟩
    simpa using q
theorem lea_row (h : FeedOk R F ds) (g : Good R F ds) : leL R F ds ∈ rowsL R F ds := List.mem_map.mpr ⟨_, lea_run h g, rfl⟩
theorem gre_row (h : FeedOk R F ds) (g : Good R F ds) : moL R F ds ∈ rowsL R F ds := List.mem_map.mpr ⟨_, gre_run h g, rfl⟩
theorem row_run {r : List Int} (hl : r.length = ds.length) {j : Nat} (hj : (rowsL R F ds)[j]? = some (cumL r)) : (runsOf R F ds)[j]? = some r := by
  unfold rowsL at hj
  rw [List.getElem?_map, Option.map_eq_some_iff] at hj
  obtain ⟨t, ht, e⟩ := hj
  rw [ht, cumL_inj (run_len (List.mem_of_getElem? ht)) hl e]
theorem head_first (h : FeedOk R F ds) (g : Good R F ds) : (runsOf R F ds).head? = some (leastRun R F ds) := by
  obtain ⟨ts, ht⟩ := (can_rn (R := R) (F := F) h.r0 h.lh).mp ((can_good h.f0 h.f1 h.lh).mpr g)
  exact first_runs h.lh ht
theorem w_S5 (h : FeedOk R F ds) (g : Good R F ds) (q : Q (.nx [x0, x1, x2, some (.lst ((runsOf R F ds).map runD)), some (.lst ((rowsL R F ds).map runD)), some (.own ((leL R F ds).map .int)), some (.own ((moL R F ds).map .int)), x7, x8, x9, x10, x11, x12, x13, x14, x15, x16, x17, x18, x19, x20] st)) :
    Wp (S5 [x0, x1, x2, some (.lst ((runsOf R F ds).map runD)), some (.lst ((rowsL R F ds).map runD)), some (.own ((leL R F ds).map .int)), some (.own ((moL R F ds).map .int)), x7, x8, x9, x10, x11, x12, x13, x14, x15, x16, x17, x18, x19, x20] st) Q := by
  have n1 := nin_rows (st := st) (L := leL R F ds) (rs := rowsL R F ds) (.inl rfl)
  have n2 := nin_rows (st := st) (L := moL R F ds) (rs := rowsL R F ds) (.inl rfl)
  rw [decide_eq_true (lea_row h g)] at n1
  rw [decide_eq_true (gre_row h g)] at n2
  obtain ⟨j, i1, i2⟩ := idx_rows (st := st) (L := leL R F ds) (rs := rowsL R F ds) (.inl rfl) (lea_row h g)
  have i3 := row_run lea_len i2
  have hh := head_first h g
  have a1 : L2.atI ((runsOf R F ds).map runD) (j : Int) = some (runD (leastRun R F ds)) := by
    rw [atI_nat, List.getElem?_map, i3]; rfl
  have a0 : ((runsOf R F ds).map runD)[0]? = some (runD (leastRun R F ds)) := by
    cases e : runsOf R F ds with
    | nil => rw [e] at hh; cases hh
    | cons r rs =>
      rw [e] at hh
      simp at hh
      simp [hh]
  have hne := ne_runD (st := st) (a := leastRun R F ds) (b := leastRun R F ds)
  generalize (runsOf R F ds).map runD = RS at *
  generalize (rowsL R F ds).map runD = RW at *
  generalize (leL R F ds).map D.int = LE at *
  generalize (moL R F ds).map D.int = MO at *
  simp [S5, n1, n2, i1, a1, a0, hne]
  exact q
theorem w_S6 (h : FeedOk R F ds) (g : Good R F ds) (q : Q (.nx [x0, x1, x2, some (.lst ((runsOf R F ds).map runD)), some (.lst ((rowsL R F ds).map runD)), x5, some (.own ((moL R F ds).map .int)), some (runD (greRun R F ds)), x8, x9, x10, x11, x12, x13, x14, x15, x16, x17, x18, x19, x20] st)) :
    Wp (S6 [x0, x1, x2, some (.lst ((runsOf R F ds).map runD)), some (.lst ((rowsL R F ds).map runD)), x5, some (.own ((moL R F ds).map .int)), x7, x8, x9, x10, x11, x12, x13, x14, x15, x16, x17, x18, x19, x20] st) Q := by
  obtain ⟨j, i1, i2⟩ := idx_rows (st := st) (L := moL R F ds) (rs := rowsL R F ds) (.inl rfl) (gre_row h g)
  have i3 := row_run gre_len i2
  have a1 : L2.atI ((runsOf R F ds).map runD) (j : Int) = some (runD (greRun R F ds)) := by
    rw [atI_nat, List.getElem?_map, i3]; rfl
  generalize (runsOf R F ds).map runD = RS at *
  generalize (rowsL R F ds).map runD = RW at *
  generalize (moL R F ds).map D.int = MO at *
  simp [S6, i1, a1]
  exact q
theorem ok_lstL {l : List D} {k : Nat} (h : l.length ≤ 1000000) (h2 : ∀ d ∈ l, D.ok k d = true) : D.ok (k + 1) (.lst l) = true := by
  simp only [D.ok, h, decide_true, Bool.true_and]
  exact oks_of h2
theorem ok_runD {r : List Int} (h : r.length ≤ 100) {k : Nat} : D.ok (k + 1) (runD r) = true :=
  ok_lstL (by simp; omega) fun d hd => by
    obtain ⟨a, _, rfl⟩ := List.mem_map.mp hd
    cases k <;> simp [D.ok]
theorem w_S7 (h : FeedOk R F ds) (g : Good R F ds) (hf : flatS st = true) (q : Q (.nx [x0, some (feedD R F ds), x2, some (.lst ((runsOf R F ds).map runD)), x4, x5, x6, some (runD (greRun R F ds)), x8, x9, x10, x11, x12, x13, x14, x15, x16, x17, x18, x19, x20] st)) :
    Wp (S7 [x0, some (feedD R F ds), x2, some (.lst ((runsOf R F ds).map runD)), x4, x5, x6, some (runD (greRun R F ds)), x8, x9, x10, x11, x12, x13, x14, x15, x16, x17, x18, x19, x20] st) Q := by
  have h5 := h.n1
  have e1 := e_first_run (st := st) h.sm
  rw [if_pos (good_bad.mp g)] at e1
  have e2 := e_greatest_run (st := st) h.sm g
  have hh := head_first h g
  have a0 : ((runsOf R F ds).map runD)[0]? = some (runD (leastRun R F ds)) := by
    cases e : runsOf R F ds with
    | nil => rw [e] at hh; cases hh
    | cons r rs =>
      rw [e] at hh
      simp at hh
      simp [hh]
  have hok : D.ok 7 (.lst [runD (leastRun R F ds), runD (greRun R F ds), runD (greRun R F ds)]) = true := ok_lstL (by simp) fun d hd => by
    simp only [List.mem_cons, List.not_mem_nil, or_false] at hd
    rcases hd with rfl | rfl | rfl
    · exact ok_runD (by rw [lea_len]; omega)
    · exact ok_runD (by rw [gre_len]; omega)
    · exact ok_runD (by rw [gre_len]; omega)
  have hs := e_same _ st hok
  clear hok
  have hz : ∀ r : List Int, (D.own (r.map .int)).fz = runD r := fun r => by simp [runD]
  generalize (runsOf R F ds).map runD = RS at *
  unfold runD at *
  generalize leastRun R F ds = L at *
  generalize greRun R F ds = G at *
  simp [S7, e1, e2, pmOf, a0, hs, hf]
  exact q
end
end Pv.K64

/-! # R18 -/
set_option Elab.async false
set_option linter.all false
set_option maxHeartbeats 2000000
set_option maxRecDepth 10000
namespace Pv.K64
open PySem Pv Pv.Feeds
def G0 : SS := (sAsg 13 (fUn ssD (fComp (wSeq (fVar 3)) (gN 16) bYes (fBin ixD (fCall m__law_stores (aCons (fVar 1) (aCons (fVar 16) aNil))) (fPk 12)) [16])))
def G1 : SS := (sAsg 14 (fUn ssD (fComp (wSeq (fVar 3)) (gN 16) bYes (fBin ixD (fPk 16) (fPk 12)) [16])))
def G2 : SS := (sIf (bOr (fB (fBin neD (fPk 13) (fLrg2 (fBin ixD (fPk 13) (fC (.int 0))) (fBin addD (fBin ixD (fPk 13) (fUn negD (fC (.int 1)))) (fC (.int 1)))))) (fB (fBin neD (fPk 14) (fLrg2 (fBin ixD (fPk 14) (fC (.int 0))) (fBin addD (fBin ixD (fPk 14) (fUn negD (fC (.int 1)))) (fC (.int 1))))))) (sRet (fC (.bl false))) sNil)
def G3 : SS := (sAsg 15 (fLst (aCons (fCall m__law_ends (aCons (fVar 13) aNil)) (aCons (fCall m__law_ends (aCons (fVar 14) aNil)) aNil))))
def G4 : SS := (sIf (bNot (fB (fRe (fCall m__law_same (aCons (fZ (fLst (aCons (fLst (aCons (fCall m_stores_there (aCons (fVar 1) (aCons (fVar 12) aNil))) (aCons (fCall m_takes (aCons (fVar 1) (aCons (fVar 12) aNil))) aNil))) (aCons (fLst (aCons (fCallK0 m_stores_there [1, 0] 2 (aCons (fVar 12) (aCons (fVar 1) aNil))) (aCons (fCallK0 m_takes [1, 0] 2 (aCons (fVar 12) (aCons (fVar 1) aNil))) aNil))) aNil)))) (aCons (fZ (fLst (aCons (fVar 15) (aCons (fVar 15) aNil)))) aNil)))))) (sRet (fC (.bl false))) sNil)
def G5 : SS := (sExt 11 (fZ (fIf (fB (fBin eqD (fCl lenD (aCons (fPk 14) aNil)) (fC (.int 1)))) (fLst (aCons (fVar 12) aNil)) (fLst aNil))))
theorem S13_eq : S13 = sFor (wRng1 (aCons (fCl lenD (aCons (fBin ixD (fPk 1) (fC (.int 3))) aNil)) aNil)) (gN 12) (sSeq G0 (sSeq G1 (sSeq G2 (sSeq G3 (sSeq G4 G5))))) := rfl
theorem pw_zr {a b : Int} : (zr a b).Pairwise (· < ·) := by
  unfold zr
  rw [List.pairwise_map]
  exact List.pairwise_lt_range.imp fun h => by omega
theorem sort_zr {l : List Int} {x y : Int} (h : ∀ v, v ∈ l ↔ x ≤ v ∧ v ≤ y) : sortU l = zr x (y + 1) := pw_uniq pw_sortU pw_zr fun v => by
  rw [mem_sortU, h, mem_zr]
  omega
theorem zr_len {a b : Int} : (zr a b).length = (b - a).toNat := by simp [zr]
theorem ss_zr {st : Ms} {l : List Int} {x y : Int} (h : ∀ v, v ∈ l ↔ x ≤ v ∧ v ≤ y) (hl : l.length ≤ 4000) (hb : y - x ≤ 60) : ssD st (.own (l.map .int)) = some (.own ((zr x (y + 1)).map .int)) := by
  unfold ssD
  have e1 : D.li2 (.own (l.map .int)) = some (l.map .int) := by simp
  rw [e1, Option.bind_some, intsOf_map, Option.bind_some, sort_zr h, if_pos ⟨hl, by rw [zr_len]; omega⟩]
theorem lmin_zr {x y : Int} (h : x ≤ y) : lmin (zr x (y + 1)) = x := lmin_eq (mem_zr.mpr ⟨Int.le_refl _, by omega⟩) fun t ht => (mem_zr.mp ht).1
theorem lmax_zr {x y : Int} (h : x ≤ y) : lmax (zr x (y + 1)) = y := lmax_eq (mem_zr.mpr ⟨h, by omega⟩) fun t ht => by have := (mem_zr.mp ht).2; omega
theorem zr_0 {x y : Int} (h : x < y) : (zr x y)[0]? = some x := by rw [zr_cons h]; rfl
theorem zr_h {x y : Int} (h : x < y) : (zr x y).head? = some x := by rw [zr_cons h]; rfl
section
variable {R F : Int} {ds : List Day} {st : Ms} {c : Nat} {s : Str} {Q : Fl → Prop} {x0 x1 x2 x3 x4 x5 x6 x7 x8 x9 x10 x11 x12 x13 x14 x15 x16 x17 x18 x19 x20 : Option D}
theorem w_S8 (h : FeedOk R F ds) (g : Good R F ds) (hp : PotF c st) (q : ∀ r1 r2 st', r1 ∈ runsOf R F ds → r2 ∈ runsOf R F ds → PotF c st' → st'.length = st.length → Q (.nx [some (.cell c), x1, x2, x3, some (.lst ((rowsL R F ds).map runD)), x5, x6, x7, some (runD (cumL r1)), some (runD (cumL r2)), x10, x11, x12, x13, x14, x15, x16, x17, x18, x19, x20] st')) :
    Wp (S8 [some (.cell c), x1, x2, x3, some (.lst ((rowsL R F ds).map runD)), x5, x6, x7, x8, x9, x10, x11, x12, x13, x14, x15, x16, x17, x18, x19, x20] st) Q := by
  have hc := h.cnt
  have hne := (good_runs h).mp g
  have hfl : (D.lst ((rowsL R F ds).map runD)).fz = .lst ((rowsL R F ds).map runD) := by simp
  have hlen : ((rowsL R F ds).map runD).length = (runsOf R F ds).length := by simp [rowsL]
  have h0 : 0 < (runsOf R F ds).length := by
    cases e : runsOf R F ds with
    | nil => exact absurd e hne
    | cons => simp
  have hm : ∀ d ∈ (rowsL R F ds).map runD, ∃ r ∈ runsOf R F ds, d = runD (cumL r) := fun d hd => by
    obtain ⟨L, hL, rfl⟩ := List.mem_map.mp hd
    obtain ⟨r, hr, rfl⟩ := List.mem_map.mp hL
    exact ⟨r, hr, rfl⟩
  generalize (rowsL R F ds).map runD = RW at *
  simp only [fz_lst, D.lst.injEq] at hfl
  simp [S8, hfl]
  refine (w_pick hp (l := RW) (by omega) (by omega)).mono fun x ⟨e, p, hs1⟩ => ?_
  obtain ⟨d, st1⟩ := x
  dsimp only at e p hs1 ⊢
  obtain ⟨r1, hr1, rfl⟩ := hm d e
  try simp [hfl]
  refine (w_pick p (l := RW) (by omega) (by omega)).mono fun x ⟨e, p, hs2⟩ => ?_
  obtain ⟨d, st2⟩ := x
  dsimp only at e p hs2 ⊢
  obtain ⟨r2, hr2, rfl⟩ := hm d e
  try simp [setAll]
  exact q r1 r2 st2 hr1 hr2 p (hs2.trans hs1)
theorem zip_cums {r1 r2 : List Int} (h1 : r1.length = ds.length) (h2 : r2.length = ds.length) (f : Int → Int → Int) : ((cumL r1).zip (cumL r2)).map (fun p => f p.1 p.2) = (List.range ds.length).map fun j => f (cum r1 (j + 1)) (cum r2 (j + 1)) := by
  rw [cumL_len h1, cumL_len h2]
  apply List.ext_getElem?
  intro i
  simp only [List.getElem?_map, List.zip, List.getElem?_zipWith]
  by_cases hi : i < ds.length
  · simp [hi]
  · simp [hi]
theorem cumL_runZ {z : Nat → Int} (h0 : z 0 = 0) : cumL (runZ ds z) = (List.range ds.length).map fun j => z (j + 1) := by
  rw [cumL_len (ds := ds) (by simp [runZ])]
  refine List.map_congr_left fun j hj => ?_
  have := List.mem_range.mp hj
  rw [cum_runZ h0 (by omega)]
theorem w_S9 (h : FeedOk R F ds) {r1 r2 : List Int} (h1 : r1 ∈ runsOf R F ds) (h2 : r2 ∈ runsOf R F ds) (q : Q (.nx [x0, x1, x2, x3, some (.lst ((rowsL R F ds).map runD)), x5, x6, x7, some (runD (cumL r1)), some (runD (cumL r2)), x10, x11, x12, x13, x14, x15, x16, x17, x18, none, none] st)) :
    Wp (S9 [x0, x1, x2, x3, some (.lst ((rowsL R F ds).map runD)), x5, x6, x7, some (runD (cumL r1)), some (runD (cumL r2)), x10, x11, x12, x13, x14, x15, x16, x17, x18, none, none] st) Q := by
  have h5 := h.n1
  have l1 := run_len h1
  have l2 := run_len h2
  have f1 := fe_of (mem_runs.mp h1)
  have f2 := fe_of (mem_runs.mp h2)
  have m1 : ((cumL r1).zip (cumL r2)).map (fun p => min p.1 p.2) ∈ rowsL R F ds := by
    rw [zip_cums l1 l2 min]
    refine List.mem_map.mpr ⟨_, mem_runs.mpr (f1.meet f2).rn, ?_⟩
    rw [cumL_runZ (z := fun i => min (cum r1 i) (cum r2 i)) (f1.meet f2).z0]
  have m2 : ((cumL r1).zip (cumL r2)).map (fun p => max p.1 p.2) ∈ rowsL R F ds := by
    rw [zip_cums l1 l2 max]
    refine List.mem_map.mpr ⟨_, mem_runs.mpr (f1.join f2).rn, ?_⟩
    rw [cumL_runZ (z := fun i => max (cum r1 i) (cum r2 i)) (f1.join f2).z0]
  have n1 := nin_rows (st := st) (rs := rowsL R F ds) (d := .own ((((cumL r1).zip (cumL r2)).map (fun p => min p.1 p.2)).map .int)) (.inl rfl)
  have n2 := nin_rows (st := st) (rs := rowsL R F ds) (d := .own ((((cumL r1).zip (cumL r2)).map (fun p => max p.1 p.2)).map .int)) (.inl rfl)
  rw [decide_eq_true m1] at n1
  rw [decide_eq_true m2] at n2
  have hfl : (D.lst ((rowsL R F ds).map runD)).fz = .lst ((rowsL R F ds).map runD) := by simp
  have hl : ((cumL r1).zip (cumL r2)).length ≤ 5 := by simp [cumL]; omega
  generalize (rowsL R F ds).map runD = RW at *
  simp [S9, wp_fComp, okAt, wipeE, restE]
  have hs : ∀ r, seqX (runD r) = some (r.map .int) := fun r => rfl
  simp only [hs, wp_some]
  rw [zipD_map]
  refine wp_each (α := Int × Int) _ _ (fun p => .int (min p.1 p.2)) (fun p hp => by simp [wipeE, ite_min]) ?_
  have e1 : ((cumL r1).zip (cumL r2)).map (fun p => D.int (min p.1 p.2)) = (((cumL r1).zip (cumL r2)).map (fun p => min p.1 p.2)).map .int := by rw [List.map_map]; rfl
  rw [e1]
  have hl1 : (((cumL r1).zip (cumL r2)).map (fun p => min p.1 p.2)).length ≤ 5 := by simpa using hl
  clear e1 m1
  generalize ((cumL r1).zip (cumL r2)).map (fun p => min p.1 p.2) = L1 at *
  simp [n1, wp_fComp, okAt, wipeE, restE]
  refine ⟨by omega, ?_⟩
  simp only [hs, wp_some]
  rw [zipD_map]
  refine wp_each (α := Int × Int) _ _ (fun p => .int (max p.1 p.2)) (fun p hp => by simp [wipeE, ite_max]) ?_
  have e2 : ((cumL r1).zip (cumL r2)).map (fun p => D.int (max p.1 p.2)) = (((cumL r1).zip (cumL r2)).map (fun p => max p.1 p.2)).map .int := by rw [List.map_map]; rfl
  rw [e2]
  have hl2 : (((cumL r1).zip (cumL r2)).map (fun p => max p.1 p.2)).length ≤ 5 := by simpa using hl
  clear e2 m2
  generalize ((cumL r1).zip (cumL r2)).map (fun p => max p.1 p.2) = L2 at *
  simp [n2]
  exact ⟨by omega, q⟩
end
end Pv.K64

/-! # R19 -/
set_option Elab.async false
set_option linter.all false
set_option maxHeartbeats 2000000
set_option maxRecDepth 10000
namespace Pv.K64
open PySem Pv Pv.Feeds
section
variable {R F : Int} {ds : List Day} {st : Ms} {c : Nat} {s : Str} {Q : Fl → Prop} {x0 x1 x2 x3 x4 x5 x6 x7 x8 x9 x10 x11 x12 x13 x14 x15 x16 x17 x18 x19 x20 : Option D}
theorem fe_bnd (h : FeedOk R F ds) {z : Nat → Int} (hz : Fe R F ds z) : ∀ j, j ≤ ds.length → 0 ≤ z j ∧ z j ≤ 6 * j
  | 0, _ => by rw [hz.z0]; omega
  | j + 1, hj => by
    have ih := fe_bnd h hz j (by omega)
    have a := hz.st j hj
    have hm : dA ds j = ds[j] := dA_get (List.getElem?_eq_getElem hj)
    have d := h.day _ (List.getElem_mem (show j < ds.length by omega))
    have l0 := d.l0
    have h1 := d.h1
    rw [← hm] at l0 h1
    omega
theorem mem_sums (h : FeedOk R F ds) (g : Good R F ds) {j : Nat} (hj : j ≤ ds.length) {v : Int} : v ∈ (runsOf R F ds).map (fun r => cum r j) ↔ rowC R F ds j ≤ v ∧ v ≤ greC R F ds j := by
  obtain ⟨z, hz⟩ := good_fe h g
  rw [← can_sum h.lh hz hj, List.mem_map]
  constructor
  · rintro ⟨r, hr, e⟩
    exact ⟨r, mem_runs.mp hr, e⟩
  · rintro ⟨r, hr, e⟩
    exact ⟨r, mem_runs.mpr hr, e⟩
theorem mem_stores (h : FeedOk R F ds) (g : Good R F ds) {j : Nat} (hj : j < ds.length) {v : Int} : v ∈ (runsOf R F ds).map (fun r => sv F ds r j) ↔ had F ds (j + 1) - greC R F ds (j + 1) ≤ v ∧ v ≤ had F ds (j + 1) - rowC R F ds (j + 1) := by
  have := mem_sums h g (j := j + 1) (by omega) (v := had F ds (j + 1) - v)
  constructor
  · intro hv
    obtain ⟨r, hr, e⟩ := List.mem_map.mp hv
    unfold sv at e
    have := this.mp (List.mem_map.mpr ⟨r, hr, by omega⟩)
    omega
  · intro hv
    obtain ⟨r, hr, e⟩ := List.mem_map.mp (this.mpr (by omega))
    exact List.mem_map.mpr ⟨r, hr, by unfold sv; omega⟩
theorem mem_takes' (h : FeedOk R F ds) (g : Good R F ds) {j : Nat} (hj : j < ds.length) {v : Int} : v ∈ (runsOf R F ds).map (fun r => r.getD j 0) ↔ tkL R F ds j ≤ v ∧ v ≤ tkH R F ds j := by
  obtain ⟨z, hz⟩ := good_fe h g
  unfold tkL tkH
  rw [← can_take h.lh hz hj, List.mem_map]
  constructor
  · rintro ⟨r, hr, e⟩
    exact ⟨r, mem_runs.mp hr, e⟩
  · rintro ⟨r, hr, e⟩
    exact ⟨r, mem_runs.mpr hr, e⟩
theorem lea_gre (h : FeedOk R F ds) (g : Good R F ds) {j : Nat} (hj : j ≤ ds.length) : rowC R F ds j ≤ greC R F ds j ∧ 0 ≤ rowC R F ds j ∧ greC R F ds j ≤ 6 * j := by
  obtain ⟨z, hz⟩ := good_fe h g
  have a := fe_bnd h (lea_fe h.lh hz) j hj
  have b := fe_bnd h (gre_fe h.lh hz) j hj
  have := lea_le (gre_fe h.lh hz) hj
  omega
theorem tk_le (h : FeedOk R F ds) (g : Good R F ds) {j : Nat} (hj : j < ds.length) : tkL R F ds j ≤ tkH R F ds j ∧ 0 ≤ tkL R F ds j ∧ tkH R F ds j ≤ 6 := by
  have hr := (mem_takes' h g hj (v := (leastRun R F ds).getD j 0)).mp (List.mem_map.mpr ⟨_, lea_run h g, rfl⟩)
  have hm : dA ds j = ds[j] := dA_get (List.getElem?_eq_getElem hj)
  have d := h.day _ (List.getElem_mem hj)
  have l0 := d.l0
  have h1 := d.h1
  rw [← hm] at l0 h1
  unfold tkL tkH at *
  omega
theorem last_row (h : FeedOk R F ds) {r : List Int} (hl : r.length = ds.length) : ((cumL r).map D.int).getLast? = some (.int (cum r ds.length)) := by
  have h0 := h.n0
  rw [cumL_len hl]
  obtain ⟨k, hk⟩ : ∃ k, ds.length = k + 1 := ⟨ds.length - 1, by omega⟩
  rw [hk]
  simp [List.range_succ]
def suL (R F : Int) (ds : List Day) : List Int := zr (rowC R F ds ds.length) (greC R F ds ds.length + 1)
theorem w_S10 (h : FeedOk R F ds) (g : Good R F ds) (q : Q (.nx [x0, x1, x2, x3, some (.lst ((rowsL R F ds).map runD)), x5, x6, x7, x8, x9, some (.own ((suL R F ds).map .int)), x11, x12, x13, x14, x15, x16, x17, none, x19, x20] st)) :
    Wp (S10 [x0, x1, x2, x3, some (.lst ((rowsL R F ds).map runD)), x5, x6, x7, x8, x9, x10, x11, x12, x13, x14, x15, x16, x17, none, x19, x20] st) Q := by
  have hc := h.cnt
  have h5 := h.n1
  have hb := lea_gre h g (Nat.le_refl ds.length)
  have hss := ss_zr (st := st) (fun v => mem_sums h g (Nat.le_refl ds.length) (v := v)) (by simp; omega) (by omega)
  have hrow : (rowsL R F ds).map runD = (runsOf R F ds).map fun r => runD (cumL r) := by unfold rowsL; rw [List.map_map]; rfl
  simp [S10, wp_fComp, okAt, wipeE, restE]
  rw [hrow]
  refine wp_each (α := List Int) (runsOf R F ds) _ (fun r => .int (cum r ds.length)) (fun r hr => ?_) ?_
  · have hl := last_row h (run_len hr)
    have e : ixD st (runD (cumL r)) (.int (-1)) = some (.int (cum r ds.length)) := by
      unfold runD
      rw [ixD_lst, atI_m1, hl]
    simp [e, wipeE]
  · have e0 : (runsOf R F ds).map (fun r => D.int (cum r ds.length)) = ((runsOf R F ds).map fun r => cum r ds.length).map .int := by rw [List.map_map]; rfl
    rw [e0]
    refine ⟨by simp; omega, wp_step hss ?_⟩
    rw [hrow] at q
    exact ⟨by simp, q⟩
theorem mul_two {t : D} (ht : t.of = true) : mulD st (.own [t]) (.int 2) = some (.own [t, t]) := by
  show (D.li (.own [t])).bind _ = _
  rw [li_own, if_pos (by simp [ht])]
  rfl
theorem mul_two' {t : D} : mulD st (.lst [t]) (.int 2) = some (.own [t, t]) := rfl
theorem w_S11 (h : FeedOk R F ds) (g : Good R F ds) (hf : flatS st = true) (q : Q (.nx [x0, some (feedD R F ds), x2, x3, x4, x5, x6, x7, x8, x9, some (.own ((suL R F ds).map .int)), x11, x12, x13, x14, x15, x16, x17, x18, x19, x20] st)) :
    Wp (S11 [x0, some (feedD R F ds), x2, x3, x4, x5, x6, x7, x8, x9, some (.own ((suL R F ds).map .int)), x11, x12, x13, x14, x15, x16, x17, x18, x19, x20] st) Q := by
  have h5 := h.n1
  have hb := lea_gre h g (Nat.le_refl ds.length)
  have e1 := e_totals (st := st) h.sm g
  have hxy : rowC R F ds ds.length < greC R F ds ds.length + 1 := by omega
  have hok : D.ok 7 (.lst [.tup [.int (rowC R F ds ds.length), .int (greC R F ds ds.length)], .tup [.int (rowC R F ds ds.length), .int (greC R F ds ds.length)]]) = true := by simp [D.ok, D.oks]
  have hs := e_same _ st hok
  unfold suL at q ⊢
  generalize rowC R F ds ds.length = X at *
  generalize greC R F ds ds.length = Y at *
  have hm := mul_two (st := st) (t := .tup [.int X, .int Y]) (by simp)
  simp [S11, zr_0 hxy, zr_h hxy, zr_last hxy, okR, rgD_zr, neD_ints, e1, pmOf, hm, hs, hf]
  exact ⟨by omega, q⟩
theorem w_S12 (q : Q (.nx [x0, x1, x2, x3, x4, x5, x6, x7, x8, x9, x10, some (.own []), x12, x13, x14, x15, x16, x17, x18, x19, x20] st)) :
    Wp (S12 [x0, x1, x2, x3, x4, x5, x6, x7, x8, x9, x10, x11, x12, x13, x14, x15, x16, x17, x18, x19, x20] st) Q := by
  simpa [S12] using q
end
end Pv.K64

/-! # R20 -/
set_option Elab.async false
set_option linter.all false
set_option maxHeartbeats 2000000
set_option maxRecDepth 10000
namespace Pv.K64
open PySem Pv Pv.Feeds
section
variable {R F : Int} {ds : List Day} {st : Ms} {c : Nat} {s : Str} {Q : Fl → Prop} {x0 x1 x2 x3 x4 x5 x6 x7 x8 x9 x10 x11 x12 x13 x14 x15 x16 x17 x18 x19 x20 : Option D}
def thL (R F : Int) (ds : List Day) (j : Nat) : Int := had F ds (j + 1) - greC R F ds (j + 1)
def thH (R F : Int) (ds : List Day) (j : Nat) : Int := had F ds (j + 1) - rowC R F ds (j + 1)
theorem w_G0 (h : FeedOk R F ds) (g : Good R F ds) {j : Nat} (hj : j < ds.length) (q : Q (.nx [x0, some (feedD R F ds), x2, some (.lst ((runsOf R F ds).map runD)), x4, x5, x6, x7, x8, x9, x10, x11, some (.int j), some (.own ((zr (thL R F ds j) (thH R F ds j + 1)).map .int)), x14, x15, none, x17, x18, x19, x20] st)) :
    Wp (G0 [x0, some (feedD R F ds), x2, some (.lst ((runsOf R F ds).map runD)), x4, x5, x6, x7, x8, x9, x10, x11, some (.int j), x13, x14, x15, none, x17, x18, x19, x20] st) Q := by
  have hc := h.cnt
  have h5 := h.n1
  have hb := lea_gre h g (show j + 1 ≤ ds.length by omega)
  have hss := ss_zr (st := st) (fun v => mem_stores h g hj (v := v)) (by simp; omega) (by omega)
  simp [G0, wp_fComp, okAt, wipeE, restE]
  refine wp_each (α := List Int) (runsOf R F ds) _ (fun r => .int (sv F ds r j)) (fun r hr => ?_) ?_
  · have hl := run_len hr
    have e := e_law_stores (st := st) (R := R) (F := F) (ts := r) h.sm.n1 hl (v := runD r) (.inl rfl)
    have e2 : L2.atI ((svL F ds r).map D.int) (j : Int) = some (.int (sv F ds r j)) := by
      rw [atI_nat]
      simp [svL, hj]
    simp [e, e2, wipeE]
  · have e0 : (runsOf R F ds).map (fun r => D.int (sv F ds r j)) = ((runsOf R F ds).map fun r => sv F ds r j).map .int := by rw [List.map_map]; rfl
    rw [e0]
    refine ⟨by simp; omega, wp_step hss ?_⟩
    exact ⟨by simp, by simpa [thL, thH] using q⟩
theorem w_G1 (h : FeedOk R F ds) (g : Good R F ds) {j : Nat} (hj : j < ds.length) (q : Q (.nx [x0, x1, x2, some (.lst ((runsOf R F ds).map runD)), x4, x5, x6, x7, x8, x9, x10, x11, some (.int j), x13, some (.own ((zr (tkL R F ds j) (tkH R F ds j + 1)).map .int)), x15, none, x17, x18, x19, x20] st)) :
    Wp (G1 [x0, x1, x2, some (.lst ((runsOf R F ds).map runD)), x4, x5, x6, x7, x8, x9, x10, x11, some (.int j), x13, x14, x15, none, x17, x18, x19, x20] st) Q := by
  have hc := h.cnt
  have h5 := h.n1
  have hb := tk_le h g hj
  have hss := ss_zr (st := st) (fun v => mem_takes' h g hj (v := v)) (by simp; omega) (by omega)
  simp [G1, wp_fComp, okAt, wipeE, restE]
  refine wp_each (α := List Int) (runsOf R F ds) _ (fun r => .int (r.getD j 0)) (fun r hr => ?_) ?_
  · have hl := run_len hr
    have e : ixD st (runD r) (.int j) = some (.int (r.getD j 0)) := by
      unfold runD
      rw [ixD_lst, atI_nat, List.getElem?_map, List.getElem?_eq_getElem (show j < r.length by omega), List.getD_eq_getElem?_getD, List.getElem?_eq_getElem (show j < r.length by omega)]
      rfl
    simp [e, wipeE]
  · have e0 : (runsOf R F ds).map (fun r => D.int (r.getD j 0)) = ((runsOf R F ds).map fun r => r.getD j 0).map .int := by rw [List.map_map]; rfl
    rw [e0]
    refine ⟨by simp; omega, wp_step hss ?_⟩
    exact ⟨by simp, by simpa using q⟩
theorem w_G2 (X Y U V : Int) (h1 : X ≤ Y) (h2 : U ≤ V) (hb : -1000 ≤ X ∧ Y ≤ 1000 ∧ -1000 ≤ U ∧ V ≤ 1000) (q : Q (.nx [x0, x1, x2, x3, x4, x5, x6, x7, x8, x9, x10, x11, x12, some (.own ((zr X (Y + 1)).map .int)), some (.own ((zr U (V + 1)).map .int)), x15, x16, x17, x18, x19, x20] st)) :
    Wp (G2 [x0, x1, x2, x3, x4, x5, x6, x7, x8, x9, x10, x11, x12, some (.own ((zr X (Y + 1)).map .int)), some (.own ((zr U (V + 1)).map .int)), x15, x16, x17, x18, x19, x20] st) Q := by
  have a1 : X < Y + 1 := by omega
  have a2 : U < V + 1 := by omega
  simp [G2, zr_0 a1, zr_h a1, zr_last a1, zr_0 a2, zr_h a2, zr_last a2, okR, rgD_zr, neD_ints]
  exact ⟨by omega, by omega, q⟩
theorem e_ends {X Y : Int} (h : X ≤ Y) : m__law_ends [.lst ((zr X (Y + 1)).map .int)] st = some (.tup [.int X, .int Y], st) := by
  have hne : zr X (Y + 1) ≠ [] := by rw [zr_cons (by omega)]; simp
  have e1 := ex_minL (st := st) hne
  have e2 := ex_maxL (st := st) hne
  rw [lmin_zr h] at e1
  rw [lmax_zr h] at e2
  rw [← wp_eq]
  refine wp_mkFn (by rfl) ?_
  generalize (zr X (Y + 1)).map D.int = Z at *
  simp only [ex2D_lst] at e1 e2
  simp [F__law_ends, e1, e2]
theorem w_G3 (X Y U V : Int) (h1 : X ≤ Y) (h2 : U ≤ V) (q : Q (.nx [x0, x1, x2, x3, x4, x5, x6, x7, x8, x9, x10, x11, x12, some (.lst ((zr X (Y + 1)).map .int)), some (.lst ((zr U (V + 1)).map .int)), some (.own [.tup [.int X, .int Y], .tup [.int U, .int V]]), x16, x17, x18, x19, x20] st)) :
    Wp (G3 [x0, x1, x2, x3, x4, x5, x6, x7, x8, x9, x10, x11, x12, some (.own ((zr X (Y + 1)).map .int)), some (.own ((zr U (V + 1)).map .int)), x15, x16, x17, x18, x19, x20] st) Q := by
  have e1 := e_ends (st := st) h1
  have e2 := e_ends (st := st) h2
  have z1 : D.fzs ((zr X (Y + 1)).map .int) = (zr X (Y + 1)).map .int := by simp
  have z2 : D.fzs ((zr U (V + 1)).map .int) = (zr U (V + 1)).map .int := by simp
  generalize (zr X (Y + 1)).map D.int = A at *
  generalize (zr U (V + 1)).map D.int = B at *
  simp [G3, e1, e2, z1, z2]
  exact q
theorem w_G4 (h : FeedOk R F ds) (g : Good R F ds) (hf : flatS st = true) {j : Nat} (hj : j < ds.length) (q : Q (.nx [x0, some (feedD R F ds), x2, x3, x4, x5, x6, x7, x8, x9, x10, x11, some (.int j), x13, x14, some (.own [.tup [.int (thL R F ds j), .int (thH R F ds j)], tkD R F ds j]), x16, x17, x18, x19, x20] st)) :
    Wp (G4 [x0, some (feedD R F ds), x2, x3, x4, x5, x6, x7, x8, x9, x10, x11, some (.int j), x13, x14, some (.own [.tup [.int (thL R F ds j), .int (thH R F ds j)], tkD R F ds j]), x16, x17, x18, x19, x20] st) Q := by
  have e1 : m_stores_there [feedD R F ds, .int j] st = some (.tup [.int (thL R F ds j), .int (thH R F ds j)], st) := e_stores_there h.sm g hj
  have e2 := e_takes (st := st) h.sm g hj
  unfold tkD at *
  have hok : D.ok 7 (.lst [.lst [.tup [.int (thL R F ds j), .int (thH R F ds j)], .tup [.int (tkL R F ds j), .int (tkH R F ds j)]], .lst [.tup [.int (thL R F ds j), .int (thH R F ds j)], .tup [.int (tkL R F ds j), .int (tkH R F ds j)]]]) = true := by simp [D.ok, D.oks]
  have hs := e_same _ st hok
  clear hok
  generalize thL R F ds j = A at *
  generalize thH R F ds j = B at *
  generalize tkL R F ds j = U at *
  generalize tkH R F ds j = V at *
  simp [G4, e1, e2, pmOf, hs, hf]
  exact q
theorem w_G5 {U V : Int} (hUV : U ≤ V) {j : Nat} {l : List D} (hl : l.length ≤ 100) (q : Q (.nx [x0, x1, x2, x3, x4, x5, x6, x7, x8, x9, x10, some (.own (l ++ if U = V then [.int j] else [])), some (.int j), x13, some (.lst ((zr U (V + 1)).map .int)), x15, x16, x17, x18, x19, x20] st)) :
    Wp (G5 [x0, x1, x2, x3, x4, x5, x6, x7, x8, x9, x10, some (.own l), some (.int j), x13, some (.lst ((zr U (V + 1)).map .int)), x15, x16, x17, x18, x19, x20] st) Q := by
  have hlen : (((zr U (V + 1)).map D.int).length : Int) = V + 1 - U := by rw [List.length_map, zr_len]; omega
  generalize (zr U (V + 1)).map D.int = Z at *
  by_cases e : U = V
  · have : (Z.length : Int) = 1 := by omega
    simp [e] at q
    simp [G5, this]
    exact ⟨by omega, q⟩
  · have : ¬ (Z.length : Int) = 1 := by omega
    simp [e] at q
    simp [G5, this]
    exact ⟨by omega, q⟩
end
end Pv.K64

/-! # R21 -/
set_option Elab.async false
set_option linter.all false
set_option maxHeartbeats 2000000
set_option maxRecDepth 10000
namespace Pv.K64
open PySem Pv Pv.Feeds
section
variable {R F : Int} {ds : List Day} {st : Ms} {c : Nat} {s : Str} {Q : Fl → Prop} {x0 x1 x2 x3 x4 x5 x6 x7 x8 x9 x10 x11 x12 x13 x14 x15 x16 x17 x18 x19 x20 : Option D}
def stil (R F : Int) (ds : List Day) (pre : List Nat) : List D := (pre.filter fun j => decide (tkL R F ds j = tkH R F ds j)).map fun (j : Nat) => .int j
theorem stil_snoc {pre : List Nat} {j : Nat} : stil R F ds (pre ++ [j]) = stil R F ds pre ++ if tkL R F ds j = tkH R F ds j then [.int j] else [] := by
  unfold stil
  rw [List.filter_append, List.map_append]
  by_cases e : tkL R F ds j = tkH R F ds j
  · rw [if_pos e, List.filter_cons_of_pos (by simpa using e)]; rfl
  · rw [if_neg e, List.filter_cons_of_neg (by simpa using e)]; rfl
theorem stil_len {pre : List Nat} : (stil R F ds pre).length ≤ pre.length := by
  unfold stil
  rw [List.length_map]
  exact List.length_filter_le _ _
theorem w_S13 (h : FeedOk R F ds) (g : Good R F ds) (hf : flatS st = true) (q : ∀ x12 x13 x14 x15, Q (.nx [x0, some (feedD R F ds), x2, some (.lst ((runsOf R F ds).map runD)), x4, x5, x6, x7, x8, x9, x10, some (.own (stil R F ds (List.range ds.length))), x12, x13, x14, x15, none, x17, x18, x19, x20] st)) :
    Wp (S13 [x0, some (feedD R F ds), x2, some (.lst ((runsOf R F ds).map runD)), x4, x5, x6, x7, x8, x9, x10, some (.own []), x12, x13, x14, x15, none, x17, x18, x19, x20] st) Q := by
  have h5 := h.n1
  rw [S13_eq, wp_sFor]
  simp [okR]
  refine ⟨by omega, ?_⟩
  rw [steps_eq]
  refine wp_for (α := Nat) (List.range ds.length) _ (fun pre env st' => st' = st ∧ ∃ x12 x13 x14 x15, env = [x0, some (feedD R F ds), x2, some (.lst ((runsOf R F ds).map runD)), x4, x5, x6, x7, x8, x9, x10, some (.own (stil R F ds pre)), x12, x13, x14, x15, none, x17, x18, x19, x20]) ⟨rfl, _, _, _, _, rfl⟩ ?_ ?_
  · rintro pre j post env st' e ⟨rfl, x12, x13, x14, x15, rfl⟩
    have hj : j < ds.length := List.mem_range.mp (by rw [e]; simp)
    have hpl : pre.length < 5 := by
      have := (mem_split_len e).1
      simp at this
      omega
    have hb := lea_gre h g (show j + 1 ≤ ds.length by omega)
    have tk := tk_le h g hj
    have hh : -1000 ≤ thL R F ds j ∧ thH R F ds j ≤ 1000 ∧ thL R F ds j ≤ thH R F ds j := by
      unfold thL thH
      obtain ⟨z, hz⟩ := good_fe h g
      have a := (lea_fe h.lh hz).st j hj
      have b := (gre_fe h.lh hz).st j hj
      have := h.r1
      omega
    simp only [Int.mul_one, Int.zero_add]
    rw [gN_ev, if_pos (by simp), wp_some]
    simp only [List.set_cons_succ, List.set_cons_zero]
    rw [wp_sSeq]
    refine w_G0 h g hj ?_
    rw [aft_nx, wp_sSeq]
    refine w_G1 h g hj ?_
    rw [aft_nx, wp_sSeq]
    refine w_G2 _ _ _ _ hh.2.2 tk.1 ⟨hh.1, hh.2.1, by omega, by omega⟩ ?_
    rw [aft_nx, wp_sSeq]
    refine w_G3 _ _ _ _ hh.2.2 tk.1 ?_
    rw [aft_nx, wp_sSeq]
    refine w_G4 h g hf hj ?_
    rw [aft_nx]
    refine w_G5 tk.1 (Nat.le_trans stil_len (by omega)) ?_
    exact ⟨rfl, _, _, _, _, by rw [stil_snoc]⟩
  · rintro env st' ⟨rfl, x12, x13, x14, x15, rfl⟩
    exact q _ _ _ _
theorem w_S14 (h : FeedOk R F ds) (g : Good R F ds) (hf : flatS st = true) (hs : ∀ st, reprD st [feedD R F ds] = some (.str s)) (q : Q (.rt (.bl true) st)) :
    Wp (S14 [x0, some (feedD R F ds), some (.str s), x3, x4, x5, x6, x7, x8, x9, x10, some (.own (stil R F ds (List.range ds.length))), x12, x13, x14, x15, x16, x17, x18, x19, x20] st) Q := by
  have h5 := h.n1
  have e1 : m_forced [feedD R F ds] st = some (.tup (stil R F ds (List.range ds.length)), st) := e_forced h.sm g
  have hl : (stil R F ds (List.range ds.length)).length ≤ 5 := Nat.le_trans stil_len (by simp; omega)
  have hof : D.ofs (stil R F ds (List.range ds.length)) = true := by simp [stil]
  have hfz : D.fzs (stil R F ds (List.range ds.length)) = stil R F ds (List.range ds.length) := by simp [stil]
  have hot : ∀ k, D.ok (k + 1) (.tup (stil R F ds (List.range ds.length))) = true := fun k => by
    simp only [D.ok, Bool.and_eq_true, decide_eq_true_eq]
    refine ⟨by omega, oks_of fun d hd => ?_⟩
    obtain ⟨a, _, rfl⟩ := List.mem_map.mp hd
    cases k <;> simp [D.ok]
  have hok : D.ok 7 (.lst [.tup (stil R F ds (List.range ds.length)), .tup (stil R F ds (List.range ds.length))]) = true := ok_lstL (by simp) fun d hd => by
    simp only [List.mem_cons, List.not_mem_nil, or_false] at hd
    rcases hd with rfl | rfl
    · exact hot 5
    · exact hot 5
  have hss := e_same _ st hok
  clear hok hot
  generalize stil R F ds (List.range ds.length) = Z at *
  have hm := mul_two' (st := st) (t := .tup Z)
  simp [S14, e1, pmOf, hof, hfz, hm, hss, hf, hs]
  exact q
theorem w_one_right (h : FeedOk R F ds) (hp : PotF c st) : Wp (m__law_one_right [.cell c, feedD R F ds] st) fun x => x.1 = .bl true ∧ PotF c x.2 ∧ x.2.length = st.length := by
  obtain ⟨s, hs⟩ := e_repr h
  refine wp_mkFn (by rfl) ?_
  rw [S_eq]
  simp only [List.map_cons, List.map_nil, List.replicate, List.cons_append, List.nil_append]
  rw [wp_sSeq]
  refine w_S0 h hs ?_
  rw [aft_nx, wp_sSeq]
  refine w_S1 h (fun _ => ⟨rfl, rfl, hp, rfl⟩) fun g hr => ?_
  rw [aft_nx, wp_sSeq]
  refine w_S2 h fun d4 hd4 => ?_
  rw [aft_nx, wp_sSeq]
  refine w_S3 h g hd4 ?_
  rw [aft_nx, wp_sSeq]
  refine w_S4 h g (by simp) ?_
  rw [aft_nx, wp_sSeq]
  refine w_S5 h g ?_
  rw [aft_nx, wp_sSeq]
  refine w_S6 h g ?_
  rw [aft_nx, wp_sSeq]
  refine w_S7 h g hp.fl ?_
  rw [aft_nx, wp_sSeq]
  refine w_S8 h g hp fun r1 r2 st1 h1 h2 hp1 hs1 => ?_
  rw [aft_nx, wp_sSeq]
  refine w_S9 h h1 h2 ?_
  rw [aft_nx, wp_sSeq]
  refine w_S10 h g ?_
  rw [aft_nx, wp_sSeq]
  refine w_S11 h g hp1.fl ?_
  rw [aft_nx, wp_sSeq]
  refine w_S12 ?_
  rw [aft_nx, wp_sSeq]
  refine w_S13 h g hp1.fl fun x12 x13 x14 x15 => ?_
  rw [aft_nx]
  exact w_S14 h g hp1.fl hs ⟨hs1, rfl, hp1, hs1⟩
theorem w_right (hp : PotF c st) : Wp (m__law_right [.cell c] st) fun x => x.1 = .bl true ∧ flatS x.2 = true ∧ x.2.length = st.length := by
  refine wp_mkFn (by rfl) ?_
  simp [F__law_right, wp_fComp, okAt, wipeE, restE, okR]
  rw [steps_eq]
  refine wp_draws (α := Nat) _ _ (fun st' => PotF c st' ∧ st'.length = st.length) (fun d => d = .bl true) ⟨hp, rfl⟩ (fun i hi st' ⟨hp', hl'⟩ => ?_) ?_
  · simp
    refine (w_pick hp' (l := [.int 3, .int 4, .int 5]) (by simp) (by simp)).mono fun x ⟨e, p, hs1⟩ => ?_
    obtain ⟨d, st1⟩ := x
    dsimp only at e p hs1 ⊢
    obtain ⟨mo, rfl, m1, m2⟩ : ∃ sz : Int, d = .int sz ∧ 3 ≤ sz ∧ sz ≤ 5 := by
      simp at e
      rcases e with rfl | rfl | rfl
      · exact ⟨3, rfl, by omega, by omega⟩
      · exact ⟨4, rfl, by omega, by omega⟩
      · exact ⟨5, rfl, by omega, by omega⟩
    simp
    refine (w_pick p (l := [.int 2, .int 3, .int 4]) (by simp) (by simp)).mono fun x ⟨e, p, hs2⟩ => ?_
    obtain ⟨d, st2⟩ := x
    dsimp only at e p hs2 ⊢
    obtain ⟨sz, rfl, h1, h2⟩ : ∃ sz : Int, d = .int sz ∧ 2 ≤ sz ∧ sz ≤ 4 := by
      simp at e
      rcases e with rfl | rfl | rfl
      · exact ⟨2, rfl, by omega, by omega⟩
      · exact ⟨3, rfl, by omega, by omega⟩
      · exact ⟨4, rfl, by omega, by omega⟩
    simp
    refine (w_feed p (by omega) m2 h1 h2).mono fun x ⟨R, F, ds, e, hf, p, hs3⟩ => ?_
    obtain ⟨d, st3⟩ := x
    dsimp only at e p hs3 ⊢
    subst e
    simp
    refine (w_one_right hf p).mono fun x ⟨e, p, hs4⟩ => ?_
    obtain ⟨d, st4⟩ := x
    dsimp only at e p hs4 ⊢
    subst e
    exact ⟨rfl, ⟨p, by omega⟩, by simp [wipeE]⟩
  · intro ds st' hl hd ⟨p, hs⟩
    have e : ds = (List.replicate ds.length true).map .bl := by
      rw [List.map_replicate]
      exact List.eq_replicate_iff.mpr ⟨rfl, hd⟩
    rw [e]
    simp only [List.length_range] at hl
    simp [hl]
    refine wp_step (allD_own (ns := [true, true, true, true])) ?_
    simp [hs, p.fl]
theorem law_true (ns : List Int) (hn : ns.length ≤ 63) : ∃ st, m_law [.scr ns] [] = some (.bl true, st) := by
  have H : Wp (m_law [.scr ns] []) fun x => x.1 = .bl true := by
    refine wp_mkFn2 (by rfl) ?_
    simp [F_law, wp_fComp, okAt, wipeE, restE, okR]
    generalize hN : (if 1 < if (ns.length : Int) < 2 then (ns.length : Int) else 2 then if (ns.length : Int) < 2 then (ns.length : Int) else 2 else 1) = N
    have hN2 : 1 ≤ N ∧ N ≤ 2 := by
      rw [← hN]
      split <;> split <;> omega
    refine ⟨by omega, ?_⟩
    rw [steps_eq]
    refine wp_draws (α := Nat) _ _ (fun st => flatS st = true) (fun d => d = .bl true) rfl (fun i hi st' hf => ?_) ?_
    · have hi := List.mem_range.mp hi
      simp
      refine (w_pot (st := st') i (by omega)).mono fun x ⟨a, b, e, ha, hb, hb2, e2⟩ => ?_
      obtain ⟨d, st1⟩ := x
      dsimp only at e e2 ⊢
      subst e e2
      simp
      refine (w_right (c := st1.length) ⟨a, b, by simp, ha, hb, hb2, flatS_app hf (by simp [flatB])⟩).mono fun x ⟨e, hf2, _⟩ => ?_
      exact ⟨e, hf2, by simp [wipeE]⟩
    · intro ds st' hl hd _
      have e : ds = (List.replicate ds.length true).map .bl := by
        rw [List.map_replicate]
        exact List.eq_replicate_iff.mpr ⟨rfl, hd⟩
      rw [e]
      simp only [List.length_range] at hl
      have hl2 : ds.length ≤ 2 := by omega
      refine ⟨by simp; omega, wp_step allD_own ?_⟩
      simp
  obtain ⟨⟨d, st⟩, e, h⟩ := H
  dsimp only at h
  subst h
  exact ⟨st, e⟩
end
end Pv.K64

/-! # the law -/
set_option maxRecDepth 100000
open PySem PySem.W PyProof.Rows
set_option maxHeartbeats 0 in
theorem PySem.Challenge.cw_payingpit_k64_whole_least_and_greatest_r_holds : PySem.Challenge.rw_payingpit_k64_whole_least_and_greatest_r.Holds := by
  w_on; o_law; k_head; (case hw => w_witness2)
  k_fill
  refine Pv.walk_G (l := PySem.Challenge.rw_payingpit_k64_whole_least_and_greatest_r) (n := 63) (k := 11) (x := "script") (m := Pv.K64.m_law) rfl (by decide) rfl ⟨rfl, by decide, by decide⟩ (fun w h Y => PySem.W.kIn_of Y) ?F Pv.K64.law_true
  case F =>
    intro w mg fa h KX G hmg
    refine Pv.K64.all_ok hmg ?D__law_runs ?D__law_taken ?D__law_same ?D__law_draw ?D__law_pick ?D_is_integer ?D_is_count ?D_is_small ?D_day_is_right ?D_feed_is_right ?D_check_feed ?D_steps_of ?D_is_too_much ?D_first_stretch_of ?D_had_of ?D_least_row ?D_first_run ?D__law_ends ?D_check_run_there ?D_greatest_row ?D_greatest_run ?D_takes_of ?D_forced ?D_totals ?D__law_stores ?D_is_position ?D_check_day ?D_stores_there ?D_takes ?D__law_one_right ?D__law_feed ?D__law_right ?D__law_pot ?D_law ?z_range ?z_len ?z_sum ?z_isinstance ?z_tuple ?z_list ?z_zip ?z_all ?z_str ?z_bool ?z_int ?z_divmod ?z_enumerate ?z_max ?z_min ?z_repr ?z_sorted ?z_set ?z_abs ?g_MOST_ROOM ?g_MOST_DAYS ?g_KINDS
    case D__law_runs => (refine' Pv.df_mk KX G ?a ?l ?c ?k); (case a => k_is); (case l => k_is); (case c => k_is); (case k => k_is)
    case D__law_taken => (refine' Pv.df_mk KX G ?a ?l ?c ?k); (case a => k_is); (case l => k_is); (case c => k_is); (case k => k_is)
    case D__law_same => (refine' Pv.df_mk KX G ?a ?l ?c ?k); (case a => k_is); (case l => k_is); (case c => k_is); (case k => k_is)
    case D__law_draw => (refine' Pv.df_mk KX G ?a ?l ?c ?k); (case a => k_is); (case l => k_is); (case c => k_is); (case k => k_is)
    case D__law_pick => (refine' Pv.df_mk KX G ?a ?l ?c ?k); (case a => k_is); (case l => k_is); (case c => k_is); (case k => k_is)
    case D_is_integer => (refine' Pv.df_mk KX G ?a ?l ?c ?k); (case a => k_is); (case l => k_is); (case c => k_is); (case k => k_is)
    case D_is_count => (refine' Pv.df_mk KX G ?a ?l ?c ?k); (case a => k_is); (case l => k_is); (case c => k_is); (case k => k_is)
    case D_is_small => (refine' Pv.df_mk KX G ?a ?l ?c ?k); (case a => k_is); (case l => k_is); (case c => k_is); (case k => k_is)
    case D_day_is_right => (refine' Pv.df_mk KX G ?a ?l ?c ?k); (case a => k_is); (case l => k_is); (case c => k_is); (case k => k_is)
    case D_feed_is_right => (refine' Pv.df_mk KX G ?a ?l ?c ?k); (case a => k_is); (case l => k_is); (case c => k_is); (case k => k_is)
    case D_check_feed => (refine' Pv.df_mk KX G ?a ?l ?c ?k); (case a => k_is); (case l => k_is); (case c => k_is); (case k => k_is)
    case D_steps_of => (refine' Pv.df_mk KX G ?a ?l ?c ?k); (case a => k_is); (case l => k_is); (case c => k_is); (case k => k_is)
    case D_is_too_much => (refine' Pv.df_mk KX G ?a ?l ?c ?k); (case a => k_is); (case l => k_is); (case c => k_is); (case k => k_is)
    case D_first_stretch_of => (refine' Pv.df_mk KX G ?a ?l ?c ?k); (case a => k_is); (case l => k_is); (case c => k_is); (case k => k_is)
    case D_had_of => (refine' Pv.df_mk KX G ?a ?l ?c ?k); (case a => k_is); (case l => k_is); (case c => k_is); (case k => k_is)
    case D_least_row => (refine' Pv.df_mk KX G ?a ?l ?c ?k); (case a => k_is); (case l => k_is); (case c => k_is); (case k => k_is)
    case D_first_run => (refine' Pv.df_mk KX G ?a ?l ?c ?k); (case a => k_is); (case l => k_is); (case c => k_is); (case k => k_is)
    case D__law_ends => (refine' Pv.df_mk KX G ?a ?l ?c ?k); (case a => k_is); (case l => k_is); (case c => k_is); (case k => k_is)
    case D_check_run_there => (refine' Pv.df_mk KX G ?a ?l ?c ?k); (case a => k_is); (case l => k_is); (case c => k_is); (case k => k_is)
    case D_greatest_row => (refine' Pv.df_mk KX G ?a ?l ?c ?k); (case a => k_is); (case l => k_is); (case c => k_is); (case k => k_is)
    case D_greatest_run => (refine' Pv.df_mk KX G ?a ?l ?c ?k); (case a => k_is); (case l => k_is); (case c => k_is); (case k => k_is)
    case D_takes_of => (refine' Pv.df_mk KX G ?a ?l ?c ?k); (case a => k_is); (case l => k_is); (case c => k_is); (case k => k_is)
    case D_forced => (refine' Pv.df_mk KX G ?a ?l ?c ?k); (case a => k_is); (case l => k_is); (case c => k_is); (case k => k_is)
    case D_totals => (refine' Pv.df_mk KX G ?a ?l ?c ?k); (case a => k_is); (case l => k_is); (case c => k_is); (case k => k_is)
    case D__law_stores => (refine' Pv.df_mk KX G ?a ?l ?c ?k); (case a => k_is); (case l => k_is); (case c => k_is); (case k => k_is)
    case D_is_position => (refine' Pv.df_mk KX G ?a ?l ?c ?k); (case a => k_is); (case l => k_is); (case c => k_is); (case k => k_is)
    case D_check_day => (refine' Pv.df_mk KX G ?a ?l ?c ?k); (case a => k_is); (case l => k_is); (case c => k_is); (case k => k_is)
    case D_stores_there => (refine' Pv.df_mk KX G ?a ?l ?c ?k); (case a => k_is); (case l => k_is); (case c => k_is); (case k => k_is)
    case D_takes => (refine' Pv.df_mk KX G ?a ?l ?c ?k); (case a => k_is); (case l => k_is); (case c => k_is); (case k => k_is)
    case D__law_one_right => (refine' Pv.df_mk KX G ?a ?l ?c ?k); (case a => k_is); (case l => k_is); (case c => k_is); (case k => k_is)
    case D__law_feed => (refine' Pv.df_mk KX G ?a ?l ?c ?k); (case a => k_is); (case l => k_is); (case c => k_is); (case k => k_is)
    case D__law_right => (refine' Pv.df_mk KX G ?a ?l ?c ?k); (case a => k_is); (case l => k_is); (case c => k_is); (case k => k_is)
    case D__law_pot => (refine' Pv.df_mk KX G ?a ?l ?c ?k); (case a => k_is); (case l => k_is); (case c => k_is); (case k => k_is)
    case D_law => (refine' Pv.df_mk KX G ?a ?l ?c ?k); (case a => k_is); (case l => k_is); (case c => k_is); (case k => k_is)
    case z_range => (refine' PySem.W.mg_none_of KX G ?a); (case a => k_is)
    case z_len => (refine' PySem.W.mg_none_of KX G ?a); (case a => k_is)
    case z_sum => (refine' PySem.W.mg_none_of KX G ?a); (case a => k_is)
    case z_isinstance => (refine' PySem.W.mg_none_of KX G ?a); (case a => k_is)
    case z_tuple => (refine' PySem.W.mg_none_of KX G ?a); (case a => k_is)
    case z_list => (refine' PySem.W.mg_none_of KX G ?a); (case a => k_is)
    case z_zip => (refine' PySem.W.mg_none_of KX G ?a); (case a => k_is)
    case z_all => (refine' PySem.W.mg_none_of KX G ?a); (case a => k_is)
    case z_str => (refine' PySem.W.mg_none_of KX G ?a); (case a => k_is)
    case z_bool => (refine' PySem.W.mg_none_of KX G ?a); (case a => k_is)
    case z_int => (refine' PySem.W.mg_none_of KX G ?a); (case a => k_is)
    case z_divmod => (refine' PySem.W.mg_none_of KX G ?a); (case a => k_is)
    case z_enumerate => (refine' PySem.W.mg_none_of KX G ?a); (case a => k_is)
    case z_max => (refine' PySem.W.mg_none_of KX G ?a); (case a => k_is)
    case z_min => (refine' PySem.W.mg_none_of KX G ?a); (case a => k_is)
    case z_repr => (refine' PySem.W.mg_none_of KX G ?a); (case a => k_is)
    case z_sorted => (refine' PySem.W.mg_none_of KX G ?a); (case a => k_is)
    case z_set => (refine' PySem.W.mg_none_of KX G ?a); (case a => k_is)
    case z_abs => (refine' PySem.W.mg_none_of KX G ?a); (case a => k_is)
    case g_MOST_ROOM => (refine' Pv.gi_mk KX G ?a ?e); (case a => k_is); (case e => exact ⟨_, rfl⟩)
    case g_MOST_DAYS => (refine' Pv.gi_mk KX G ?a ?e); (case a => k_is); (case e => exact ⟨_, rfl⟩)
    case g_KINDS => (refine' Pv.gd_mk KX G ?a ?b ?f ?c); (case a => k_is); (case b => k_is); (case f => rfl); (case c => exact ⟨rfl, _, _, rfl, by decide, by repeat (first | exact .nil | refine .cons ⟨_, rfl⟩ ?_)⟩)
