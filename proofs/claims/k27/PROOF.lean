import PyProof.Rows.All
import Wide.All
import OpenK.AllK
import Wide.FinOn
import HandS.ForMost
import HandS.ForExc
import HandS.Lambda
import HandS.EndTab
import KE.KExcSuper
import HandS.ExcIs
import HandS.ExcField
import HandS.IsInst
import HandS.Strs
import HandS.Wide
import KE.KTupSum
import PyProof.ReprBulk
import PyProof.FitsInt
import HandS.EndBits
import HandS.NestedK
import HandS.HeadHook4
import HandS.Head2
import PySem.Challenge.RW_judgedunrun_k27_whole_counts_of_all_fiel
set_option Elab.async false
set_option linter.all false
set_option maxRecDepth 100000
set_option maxHeartbeats 4000000
/-! Objects that a caller keeps frozen while a callee runs: added to the abstract heap ahead of a call, taken away behind it. -/
namespace Jud
open PySem PySem.Spec PyProof.Rows L2

/-- known to the very object, read only -/
def Fz (o : Obj) : HO := .frz o (.ext fun _ => True)
def hid (L : List Addr) (H : Hp) : Hp := fun b => if b ∈ L then none else H b
def rst (L : List Addr) (H H' : Hp) : Hp := fun b => if b ∈ L then H b else H' b
def fzs (l : List (Addr × Obj)) (H : Hp) : Hp := fun b => match l.lookup b with | some o => some (Fz o) | none => H b

theorem hid_in {L : List Addr} {H : Hp} {b : Addr} (h : b ∈ L) : hid L H b = none := if_pos h
theorem hid_out {L : List Addr} {H : Hp} {b : Addr} (h : b ∉ L) : hid L H b = H b := if_neg h
theorem rst_in {L : List Addr} {H H' : Hp} {b : Addr} (h : b ∈ L) : rst L H H' b = H b := if_pos h
theorem rst_out {L : List Addr} {H H' : Hp} {b : Addr} (h : b ∉ L) : rst L H H' b = H' b := if_neg h
theorem lookup_mem : ∀ {l : List (Addr × Obj)} {b : Addr} {o : Obj}, l.lookup b = some o → (b, o) ∈ l
  | [], b, o, h => by cases h
  | (c, u) :: r, b, o, h => by
    by_cases e : b = c
    · subst e
      have h' : some u = some o := by rw [← h]; simp [List.lookup]
      cases h'
      exact List.mem_cons_self
    · have e' : (b == c) = false := by simpa using e
      simp only [List.lookup, e'] at h
      exact List.mem_cons_of_mem _ (lookup_mem h)
theorem lookup_out {l : List (Addr × Obj)} {b : Addr} (h : b ∉ l.map (·.1)) : l.lookup b = none := by
  cases e : l.lookup b with
  | none => rfl
  | some o => exact absurd (List.mem_map.mpr ⟨_, lookup_mem e, rfl⟩) h
theorem lookup_in {l : List (Addr × Obj)} {b : Addr} (h : b ∈ l.map (·.1)) : ∃ o, l.lookup b = some o ∧ (b, o) ∈ l := by
  cases e : l.lookup b with
  | some o => exact ⟨o, rfl, lookup_mem e⟩
  | none =>
    obtain ⟨p, hp, e2⟩ := List.mem_map.mp h
    have := List.lookup_eq_none_iff.mp e p hp
    simp [e2] at this
theorem fzs_in {l : List (Addr × Obj)} {H : Hp} {b : Addr} {o : Obj} (h : l.lookup b = some o) : fzs l H b = some (Fz o) := by
  unfold fzs; rw [h]
theorem fzs_out {l : List (Addr × Obj)} {H : Hp} {b : Addr} (h : l.lookup b = none) : fzs l H b = H b := by
  unfold fzs; rw [h]
theorem fz_ok {P : Program} {w : World} {H : Hp} {h : Heap} {a : Addr} {o : Obj} (e : h.get? a = some o) : ObjOk P w H h a (Fz o) :=
  ⟨e, trivial, ⟨o, e⟩, fun _ _ _ _ => trivial⟩

section
variable {P : Program} {w : World} {H H' : Hp} {h h' B : Heap} {l : List (Addr × Obj)} {L : List Addr} {outer : List Env} {s s' : Shared}

theorem hok_fzs (x : HOk P w H h) (hl : ∀ p ∈ l, h.get? p.1 = some p.2 ∧ H p.1 = none) : HOk P w (fzs l H) h := fun b u e => by
  have ne : ∀ c v, H c = some v → l.lookup c = none := fun c v q => by
    cases z : l.lookup c with
    | none => rfl
    | some o =>
      have := (hl _ (lookup_mem z)).2
      rw [q] at this; cases this
  cases z : l.lookup b with
  | some o =>
    rw [fzs_in z] at e; cases e
    exact fz_ok (hl _ (lookup_mem z)).1
  | none =>
    rw [fzs_out z] at e
    exact (x b u e).stay (fun _ _ _ q => q) (fun c q => by rw [fzs_out (ne _ _ q)]; exact q) fun c xs q => by rw [fzs_out (ne _ _ q)]; exact q

/-- all at L is frozen -/
def AllFz (L : List Addr) (H : Hp) : Prop := ∀ b ∈ L, ∃ o, H b = some (Fz o)
theorem AllFz.not {b : Addr} {u : HO} (a : AllFz L H) (q : H b = some u) (n : ∀ o, u ≠ Fz o) : b ∉ L := fun hb => by
  obtain ⟨o, e⟩ := a b hb
  rw [q] at e; cases e
  exact n o rfl
theorem fz_tup {o : Obj} {xs : List V} : HO.tup xs ≠ Fz o := fun z => by unfold Fz at z; cases z
theorem fz_own {o : Obj} {x : Addr} : HO.own x ≠ Fz o := fun z => by unfold Fz at z; cases z
theorem fz_tbl {o : Obj} {ps : Array Value} : HO.tbl ps ≠ Fz o := fun z => by unfold Fz at z; cases z

theorem hok_hid (x : HOk P w H h) (a : AllFz L H) : HOk P w (hid L H) h := fun b u e => by
  by_cases hb : b ∈ L
  · rw [hid_in hb] at e; cases e
  · rw [hid_out hb] at e
    exact (x b u e).stay (fun _ _ _ q => q) (fun c q => by rw [hid_out (a.not q fun _ => fz_own)]; exact q) fun c xs q => by rw [hid_out (a.not q fun _ => fz_tup)]; exact q

/-- what was added is frozen behind a callee too -/
theorem AllFz.un (u : Un (frs outer) [] H H' h h') (a : AllFz L H) : AllFz L H' := fun b hb => by
  obtain ⟨o, e⟩ := a b hb
  exact ⟨o, u.frzs b o _ e⟩

/-- the frozen ones are taken away behind a call -/
theorem un_add (hl : ∀ p ∈ l, h.get? p.1 = some p.2 ∧ H p.1 = none) (hok : HOk P w H' h') (u : Un (frs outer) [] (fzs l H) H' h h') : Un (frs outer) [] H (hid (l.map (·.1)) H') h h' := by
  have out : ∀ b v, H b = some v → b ∉ l.map (·.1) := fun b v q hb => by
    obtain ⟨o, _, hm⟩ := lookup_in hb
    have := (hl _ hm).2
    rw [q] at this; cases this
  have fz : ∀ b o, l.lookup b = some o → h'.get? b = some o := fun b o e => by
    have z := u.frzs b o _ (fzs_in (H := H) e)
    exact (hok b _ z).1
  refine ⟨fun b o e n hb hx => ?_, fun b o e n hb hx => ?_, fun b o e n hx => ?_, u.there, fun b xs e => ?_, fun b o v e => ?_, fun b ps e => ?_⟩
  · cases z : l.lookup b with
    | some o2 =>
      have e2 := (hl _ (lookup_mem z)).1
      rw [e] at e2; cases e2
      exact fz b _ z
    | none => exact u.keep b o e (by rw [fzs_out z]; exact n) hb hx
  · cases z : l.lookup b with
    | some o2 =>
      have e2 := (hl _ (lookup_mem z)).1
      rw [e] at e2
      have e3 : o = o2 := Option.some.inj e2
      exact ⟨o.slots, by rw [fz b _ z, ← e3]⟩
    | none => exact u.slot b o e (by rw [fzs_out z]; exact n) hb hx
  · by_cases hb : b ∈ l.map (·.1)
    · exact hid_in hb
    · rw [hid_out hb]
      exact u.free b o e (by rw [fzs_out (lookup_out hb)]; exact n) hx
  · have hb := out b _ e
    rw [hid_out hb]
    exact u.tups b xs (by rw [fzs_out (lookup_out hb)]; exact e)
  · have hb := out b _ e
    rw [hid_out hb]
    exact u.frzs b o v (by rw [fzs_out (lookup_out hb)]; exact e)
  · have hb := out b _ e
    rw [hid_out hb]
    exact u.tbls b ps (by rw [fzs_out (lookup_out hb)]; exact e)
theorem fz_mem (b : Addr) (hb : b ∈ l.map (·.1)) : ∃ o, fzs l H b = some (Fz o) := by
  obtain ⟨o, e, _⟩ := lookup_in hb
  exact ⟨o, fzs_in e⟩
theorem ce_add {Q : VK} {u : Value} (hl : ∀ p ∈ l, s.heap.get? p.1 = some p.2 ∧ H p.1 = none)
    (h : CE outer P w (fzs l H) s (fun v H' => Q v (hid (l.map (·.1)) H')) u s') : CE outer P w H s Q u s' := by
  obtain ⟨v, H', os, ab, un, hok, r, q⟩ := h
  exact ⟨v, _, os, ab, un_add hl hok un, hok_hid hok (AllFz.un un fun b hb => fz_mem b hb), r, q⟩

/-- what is frozen is put back behind a body that ran without it -/
theorem un_hid (x : HOk P w H h) (a : AllFz L H) (u : Un (frs outer) [] (hid L H) H' h h') : Un (frs outer) [] H (rst L H H') h h' := by
  refine ⟨fun b o e n hb hx => u.keep b o e ?_ hb hx, fun b o e n hb hx => u.slot b o e ?_ hb hx, fun b o e n hx => ?_, u.there, fun b xs e => ?_, fun b o v e => ?_, fun b ps e => ?_⟩
  · by_cases z : b ∈ L
    · exact hid_in z
    · rw [hid_out z]; exact n
  · by_cases z : b ∈ L
    · exact hid_in z
    · rw [hid_out z]; exact n
  · have z : b ∉ L := fun z => by
      obtain ⟨o2, e2⟩ := a b z
      rw [n] at e2; cases e2
    rw [rst_out z]
    exact u.free b o e (by rw [hid_out z]; exact n) hx
  · have z := a.not e fun _ => fz_tup
    rw [rst_out z]
    exact u.tups b xs (by rw [hid_out z]; exact e)
  · by_cases z : b ∈ L
    · rw [rst_in z]; exact e
    · rw [rst_out z]
      exact u.frzs b o v (by rw [hid_out z]; exact e)
  · have z := a.not e fun _ => fz_tbl
    rw [rst_out z]
    exact u.tbls b ps (by rw [hid_out z]; exact e)
theorem hok_rst (x : HOk P w H h) (a : AllFz L H) (kept : ∀ b ∈ L, ∀ o, h.get? b = some o → h'.get? b = some o) (gone : ∀ b ∈ L, H' b = none) (x' : HOk P w H' h') : HOk P w (rst L H H') h' := fun b u e => by
  by_cases z : b ∈ L
  · rw [rst_in z] at e
    obtain ⟨o, e2⟩ := a b z
    rw [e] at e2; cases e2
    exact fz_ok (kept b z o (x b _ e).1)
  · rw [rst_out z] at e
    have nz : ∀ c v, H' c = some v → c ∉ L := fun c v q hc => by rw [gone c hc] at q; cases q
    exact (x' b u e).stay (fun _ _ _ q => q) (fun c q => by rw [rst_out (nz _ _ q)]; exact q) fun c xs q => by rw [rst_out (nz _ _ q)]; exact q
theorem ce_hid {Q : VK} {u : Value} (x : HOk P w H s.heap) (a : AllFz L H) (nf : ∀ b ∈ frs outer, H b = none)
    (h : CE outer P w (hid L H) s (fun v H' => (∀ b ∈ L, H' b = none) → Q v (rst L H H')) u s') : CE outer P w H s Q u s' := by
  obtain ⟨v, H', os, ab, un, hok, r, q⟩ := h
  have nfr : ∀ b ∈ L, b ∉ frs outer := fun b hb hf => by
    obtain ⟨o, e⟩ := a b hb
    rw [nf b hf] at e; cases e
  have gone : ∀ b ∈ L, H' b = none := fun b hb => by
    obtain ⟨o, e⟩ := a b hb
    exact un.free b o (x b _ e).1 (hid_in hb) (by simp)
  exact ⟨v, _, os, ab, un_hid x a un, hok_rst x a (fun b hb o e => un.keep b o e (hid_in hb) (nfr b hb) (by simp)) gone hok, r, q gone⟩

/-- the same where an exception comes -/
theorem cx_add {E : XK} {u : Value} (hl : ∀ p ∈ l, s.heap.get? p.1 = some p.2 ∧ H p.1 = none) (nf : ∀ p ∈ l, p.1 ∉ frs outer)
    (h : L2.CX P w outer (fzs l H) s (fun c d H' => E c d (hid (l.map (·.1)) H')) u s') : L2.CX P w outer H s E u s' := by
  obtain ⟨a, B, H', cls, d, e, fl, hok, ub, na, os, ab, q⟩ := h
  have out : ∀ b v, H b = some v → b ∉ l.map (·.1) := fun b v q hb => by
    obtain ⟨o, _, hm⟩ := lookup_in hb
    have := (hl _ hm).2
    rw [q] at this; cases this
  have fz : ∀ b o, l.lookup b = some o → B.get? b = some o := fun b o e => by
    have z := ub.frzs b o _ (fzs_in (H := H) e)
    exact (hok b _ z).1
  refine ⟨a, B, hid (l.map (·.1)) H', cls, d, e, fl, hok_hid hok (fun b hb => ?_), ⟨fun b o e n hb => ?_, ub.slot, fun b o e n => ?_, ub.there, fun b xs e => ?_, fun b o v e => ?_, fun b ps e => ?_⟩, ?_, os, ab, q⟩
  · obtain ⟨o, e, _⟩ := lookup_in hb
    exact ⟨o, ub.frzs b o _ (fzs_in e)⟩
  · cases z : l.lookup b with
    | some o2 =>
      have e2 := (hl _ (lookup_mem z)).1
      rw [e] at e2; cases e2
      exact fz b _ z
    | none => exact ub.keep b o e (by rw [fzs_out z]; exact n) hb
  · by_cases hb : b ∈ l.map (·.1)
    · exact hid_in hb
    · rw [hid_out hb]
      exact ub.free b o e (by rw [fzs_out (lookup_out hb)]; exact n)
  · have hb := out b _ e
    rw [hid_out hb]
    exact ub.tups b xs (by rw [fzs_out (lookup_out hb)]; exact e)
  · have hb := out b _ e
    rw [hid_out hb]
    exact ub.frzs b o v (by rw [fzs_out (lookup_out hb)]; exact e)
  · have hb := out b _ e
    rw [hid_out hb]
    exact ub.tbls b ps (by rw [fzs_out (lookup_out hb)]; exact e)
  · by_cases hb : a ∈ l.map (·.1)
    · exact hid_in hb
    · rw [hid_out hb]; exact na
theorem cx_hid {E : XK} {u : Value} (x : HOk P w H s.heap) (al : AllFz L H) (nf : ∀ b ∈ frs outer, H b = none)
    (h : L2.CX P w outer (hid L H) s (fun c d H' => (∀ b ∈ L, H' b = none) → E c d (rst L H H')) u s') : L2.CX P w outer H s E u s' := by
  obtain ⟨a, B, H', cls, d, e, fl, hok, ub, na, os, ab, q⟩ := h
  have nfr : ∀ b ∈ L, b ∉ frs outer := fun b hb hf => by
    obtain ⟨o, e⟩ := al b hb
    rw [nf b hf] at e; cases e
  have kept : ∀ b ∈ L, ∀ o, s.heap.get? b = some o → B.get? b = some o := fun b hb o e => ub.keep b o e (hid_in hb) (nfr b hb)
  have gone : ∀ b ∈ L, H' b = none := fun b hb => by
    obtain ⟨o, e⟩ := al b hb
    exact ub.free b o (x b _ e).1 (hid_in hb)
  refine ⟨a, B, rst L H H', cls, d, e, fl, hok_rst x al kept gone hok, ⟨fun b o e n hb => ub.keep b o e ?_ hb, ub.slot, fun b o e n => ?_, ub.there, fun b xs e => ?_, fun b o v e => ?_, fun b ps e => ?_⟩, ?_, os, ab, q gone⟩
  · by_cases z : b ∈ L
    · exact hid_in z
    · rw [hid_out z]; exact n
  · have z : b ∉ L := fun z => by
      obtain ⟨o2, e2⟩ := al b z
      rw [n] at e2; cases e2
    rw [rst_out z]
    exact ub.free b o e (by rw [hid_out z]; exact n)
  · have z := al.not e fun _ => fz_tup
    rw [rst_out z]
    exact ub.tups b xs (by rw [hid_out z]; exact e)
  · by_cases z : b ∈ L
    · rw [rst_in z]; exact e
    · rw [rst_out z]
      exact ub.frzs b o v (by rw [hid_out z]; exact e)
  · have z := al.not e fun _ => fz_tbl
    rw [rst_out z]
    exact ub.tbls b ps (by rw [hid_out z]; exact e)
  · by_cases z : a ∈ L
    · obtain ⟨o, e2⟩ := al a z
      have k := kept a z o (x a _ e2).1
      have n := fl.2.1
      rw [n] at k; cases k
    · rw [rst_out z]; exact na
end
end Jud
set_option Elab.async false
set_option linter.all false
set_option maxRecDepth 100000
set_option maxHeartbeats 4000000
/-! A lambda without parameters as a value: made, handed to a def, called from any depth below. And a def by its name. -/
namespace Jud
open PySem PySem.Spec L2 LamX
open PyProof.Rows hiding St


/-- room for k calls one in another, and no text is being shown -/
structure Rm (k : Nat) (A : Around) : Prop where
  room : Room k A
  gd : A.guards = some []
theorem Rm.mono {j k : Nat} {A : Around} (r : Rm k A) (h : j ≤ k) : Rm j A := ⟨r.room.mono h, r.gd⟩
theorem Rm.deeper {k : Nat} {A : Around} (r : Rm (k + 1) A) (env : Env) : Rm k (A.deeper env) := ⟨r.room.deeper env, r.gd⟩
/-- a def keeps its promise -/
structure FnG (P : Program) (w : World) (K : PySem.W.Frag) (mg : Str → Option Value) (base : Heap) (k : Nat) (f : Addr) (fd : FuncData) (ps : List Str) (sp : Sp) : Prop where
  len : ∀ vs H Q E, sp vs H Q E → vs.length = ps.length
  run : ∀ (A : Around) (outer : List Env) (s : Shared) (H : Hp) (args : Args) (us : List Value) (vs : List V) (Q : VK) (E : XK), Rm k A → Env0 P w K mg base A outer s H → BindsTo s fd args (ps.zip us) → Vals vs us → sp vs H Q E →
    codeAny (model P w) A (.call (.ref f) args) (CR (L2.CX P w) outer P w H s Q E) s
/-- a function as a value -/
structure IsFn (P : Program) (w : World) (K : PySem.W.Frag) (mg : Str → Option Value) (base : Heap) (k : Nat) (f : Addr) (ps : List Str) (sp : Sp) : Prop where
  kp : PySem.W.keepIn K (.ref f) = true
  ex : ∃ fd, (∃ o, K.lookup f = some o ∧ o.data = .func fd) ∧ Binds K fd ps [] ∧ FnG P w K mg base k f fd ps sp
/-- a def of the text: what it promises, wherever it stands -/
structure Def (P : Program) (w : World) (K : PySem.W.Frag) (mg : Str → Option Value) (base : Heap) (k : Nat) (x : Str) (ps : List Str) (sp : Sp) : Prop where
  ex : ∃ f, mg x = some (.ref f) ∧ IsFn P w K mg base k f ps sp
section
variable {P : Program} {w : World} {K : PySem.W.Frag} {mg : Str → Option Value} {base : Heap} {j k : Nat} {x : Str} {f : Addr} {fd : FuncData} {ps : List Str} {sp sp' : Sp}
theorem FnG.mono (F : FnG P w K mg base j f fd ps sp) (h : j ≤ k) : FnG P w K mg base k f fd ps sp := ⟨F.len, fun A outer s H args us vs Q E r => F.run A outer s H args us vs Q E (r.mono h)⟩
theorem FnG.imp (F : FnG P w K mg base k f fd ps sp) (h : ∀ vs H Q E, sp' vs H Q E → sp vs H Q E) : FnG P w K mg base k f fd ps sp' := ⟨fun vs H Q E q => F.len vs H Q E (h _ _ _ _ q), fun A outer s H args us vs Q E r e b v q => F.run A outer s H args us vs Q E r e b v (h _ _ _ _ q)⟩
theorem IsFn.mono (D : IsFn P w K mg base j f ps sp) (h : j ≤ k) : IsFn P w K mg base k f ps sp := ⟨D.kp, let ⟨fd, o, b, F⟩ := D.ex; ⟨fd, o, b, F.mono h⟩⟩
theorem IsFn.imp (D : IsFn P w K mg base k f ps sp) (h : ∀ vs H Q E, sp' vs H Q E → sp vs H Q E) : IsFn P w K mg base k f ps sp' := ⟨D.kp, let ⟨fd, o, b, F⟩ := D.ex; ⟨fd, o, b, F.imp h⟩⟩
theorem Def.mono (D : Def P w K mg base j x ps sp) (h : j ≤ k) : Def P w K mg base k x ps sp := let ⟨f, a, b⟩ := D.ex; ⟨f, a, b.mono h⟩
theorem Def.imp (D : Def P w K mg base k x ps sp) (h : ∀ vs H Q E, sp' vs H Q E → sp vs H Q E) : Def P w K mg base k x ps sp' := let ⟨f, a, b⟩ := D.ex; ⟨f, a, b.imp h⟩
end

def tDef (sp : Sp) (E : XK) (t : TA) : TE := fun σ H Q => t σ H fun vs H1 => sp vs H1 Q E
/-- the function that the i-th slot holds, called -/
def tCallV (P : Program) (w : World) (K : PySem.W.Frag) (mg : Str → Option Value) (base : Heap) (k i : Nat) (E : XK) (t : TA) : TE := fun σ H Q => ∃ f ps sp, σ[i]? = some (some (.ref f)) ∧ IsFn P w K mg base k f ps sp ∧ t σ H fun vs H1 => sp vs H1 Q E
section
variable {X : Cx} {k : Nat} {f : Addr} {ps : List Str} {sp : Sp} {E : XK} {x : Str} {p pos : Pos} {e : Expr} {es : List Expr} {t : TA}
theorem run_fng {fd : FuncData} {pins : List (Addr × Obj)} {σ : St} {H : Hp} {s : Shared} {Q : VK} {us : List Value} {vs : List V} (F : FnG X.prog X.w X.K X.mg X.base k f fd ps sp) (hr : Rm k X.A) (hb : Binds X.K fd ps []) (hx : Passes (L2.CX X.prog X.w) X E)
    (I : Inv X pins σ H s) (r : Vals vs us) (h : sp vs H Q E) : wpAny (model X.prog X.w) X.A (call (.ref f) us) (EP X pins σ Q) X.xe s := by
  have hl := F.len vs H Q E h
  have hb2 := hb s us I.kIn (by rw [List.append_nil, ← r.length]; exact hl)
  rw [List.append_nil] at hb2
  refine wpAny_call (codeAny_mono (F.run X.A X.stack s H ⟨us, []⟩ us vs Q E hr I.env0 hb2 r h) fun r s3 hq => ?_)
  cases r with
  | error e => exact hx pins σ H s e s3 I hq
  | ok fl =>
    cases fl with
    | ret u => exact I.after hq
    | next => exact False.elim hq
    | brk => exact False.elim hq
    | cont => exact False.elim hq
theorem pe_def (D : Def X.prog X.w X.K X.mg X.base k x ps sp) (hr : Rm k X.A) (hx : Passes (L2.CX X.prog X.w) X E) (ha : PA X (e :: es) t) (hg : Gl X x := by rfl)
    (hdb : (x == ("__debug__" : Str)) = false := by decide) (he : starEach (e :: es) X.env = (false, eval e X.env) :: starEach es X.env := by rfl) (hpl : (backTo pos (starEach es X.env)).any (·.1) = false := by rfl) :
    PE X (.Call (.Name x p) (e :: es) [] pos) (tDef sp E t) := by
  obtain ⟨f, hm, hk, fd, _, hb, F⟩ := D.ex
  refine ⟨fun pins s σ H Q I h => ?_⟩
  refine wpAny_Call_Name_kw (ld_glob I hg hm ?_ hdb)
  exact PySem.W.callWith_K (h₀ := X.base) I.ok.mod.kin hk (thn (ha.run pos pins s σ H _ I h) fun us s1 ⟨vs, H1, I1, r, q⟩ => ⟨I1.kIn, run_fng F hr hb hx I1 r q⟩) he hpl
theorem pe_def0 (D : Def X.prog X.w X.K X.mg X.base k x ps sp) (hr : Rm k X.A) (hx : Passes (L2.CX X.prog X.w) X E) (hg : Gl X x := by rfl) (hdb : (x == ("__debug__" : Str)) = false := by decide) :
    PE X (.Call (.Name x p) [] [] pos) (tDef sp E tNil) := by
  obtain ⟨f, hm, hk, fd, _, hb, F⟩ := D.ex
  refine ⟨fun pins s σ H Q I h => ?_⟩
  exact wpAny_Call_Name_kw (ld_glob I hg hm (PySem.W.callWith_K0 I.kIn hk (run_fng F hr hb hx I .nil h)) hdb)
theorem pe_callV {i : Nat} (hr : Rm k X.A) (hx : Passes (L2.CX X.prog X.w) X E) (hN : X.N[i]? = some x) (hv : Vis X.env.scope x) (ha : PA X (e :: es) t)
    (hdb : (x == ("__debug__" : Str)) = false := by decide) (hcd : (x == ("__classdict__" : Str)) = false := by decide)
    (he : starEach (e :: es) X.env = (false, eval e X.env) :: starEach es X.env := by rfl) (hpl : (backTo pos (starEach es X.env)).any (·.1) = false := by rfl) :
    PE X (.Call (.Name x p) (e :: es) [] pos) (tCallV X.prog X.w X.K X.mg X.base k i E t) := by
  refine ⟨fun pins s σ H Q I h => ?_⟩
  obtain ⟨f, ps, sp, hs, ⟨hk, fd, _, hb, F⟩, ht⟩ := h
  refine wpAny_Call_Name_kw (thn ((pe_var (pos := p) hN hv hdb hcd).run pins s σ H (fun v H1 => v = .ref f ∧ H1 = H) I ⟨.ref f, hs, rfl, rfl⟩) fun u s1 ⟨v, H1, I1, r1, q1⟩ => ?_)
  obtain ⟨rfl, rfl⟩ := q1
  cases r1
  exact PySem.W.callWith_K (h₀ := X.base) I.ok.mod.kin hk (thn (ha.run pos pins s1 σ _ _ I1 ht) fun us s2 ⟨vs, H2, I2, r, q⟩ => ⟨I2.kIn, run_fng F hr hb hx I2 r q⟩) he hpl
end

/-! ### closures -/
abbrev cloEnv (q : Str) (scope : Scope) (cl : List (Str × Addr)) (L f c' : Addr) : Env := PySem.W.envX q scope L f (.ref c') cl
/-- the context of a lambda's body -/
def cloCx (P : Program) (w : World) (K : PySem.W.Frag) (mg : Str → Option Value) (base : Heap) (N : List Str) (q : Str) (scope : Scope) (cl : List (Str × Addr)) (A : Around) (outer : List Env) (s : Shared) (H : Hp) (E : XK) (f c' : Addr) : Cx where
  prog := P
  w := w
  K := K
  mg := mg
  base := base
  A := A.deeper (cloEnv q scope cl s.heap.objs.size f c')
  N := N
  s_0 := s
  H_0 := H
  env := cloEnv q scope cl s.heap.objs.size f c'
  outer := outer
  stack := cloEnv q scope cl s.heap.objs.size f c' :: outer
  ex := []
  fn := fun _ => false
  calm := true
  pn := []
  xe := fun e s' => wpAny (model P w) (A.deeper (cloEnv q scope cl s.heap.objs.size f c')) (leaving (cloEnv q scope cl s.heap.objs.size f c') e) (fun _ s'' => L2.CX P w outer H s E e s'') (fun e' s'' => L2.CX P w outer H s E e' s'') s'
structure ClS (scope : Scope) (cl : List (Str × Addr)) : Prop where
  kind : scope.kind = .function
  co : scope.isCoroutine = false
  gen : scope.isGenerator = false
  own : ∀ y ∈ scope.names, y.2 ≠ .local ∧ y.2 ≠ .cell
  has : ∀ x, scope.names.lookup x = some .free → ∃ c, cl.lookup x = some c
  inj : ∀ x y c, cl.lookup x = some c → cl.lookup y = some c → x = y
/-- at f a lambda stands; L: the cells that it holds, frozen; tl: what its body asks -/
structure CloAt (P : Program) (w : World) (K : PySem.W.Frag) (mg : Str → Option Value) (base : Heap) (k : Nat) (H : Hp) (f : Addr) (L : List Addr) (tl : XK → Hp → VK → Prop) : Prop where
  ex : ∃ (params : Arguments) (body : Expr) (scope : Scope) (q : Str) (cl : List (Str × Addr)) (pm : Value) (c' : Addr) (ctv : Value) (N : List Str) (σ : St) (t : XK → TE),
    H f = some (Fz (PySem.W.kla_obj "<lambda>" q params body scope cl pm c' ctv)) ∧ H c' = some (CodeO c' q) ∧ ClS scope cl ∧
    (∀ x c, cl.lookup x = some c → c ∈ L) ∧ (∀ c ∈ L, ∃ o v, H c = some (Fz o) ∧ o.data = .cell v) ∧ σ.length = N.length ∧
    (∀ (i : Nat) (x : Str) (v : V), N[i]? = some x → σ[i]? = some (some v) → scope.names.lookup x = some .free → ∃ c o u, cl.lookup x = some c ∧ H c = some (Fz o) ∧ o.data = .cell (some u) ∧ RelV v u) ∧
    bindArgs (PySem.W.kla_fn "<lambda>" q params body scope cl pm (.ref c') ctv) ⟨[], []⟩ = pure [] ∧
    (∀ (A : Around) (outer : List Env) (s : Shared) (H : Hp) (E : XK), Rm k (A.deeper (cloEnv q scope cl s.heap.objs.size f c')) → PE (cloCx P w K mg base N q scope cl A outer s H E f c') body (t E)) ∧
    tl = fun E H Q => t E σ H Q
theorem CloAt.same {P : Program} {w : World} {K : PySem.W.Frag} {mg : Str → Option Value} {base : Heap} {k : Nat} {H H' : Hp} {f : Addr} {L : List Addr} {tl : XK → Hp → VK → Prop} (C : CloAt P w K mg base k H f L tl) (e : Same H H') : CloAt P w K mg base k H' f L tl := by
  obtain ⟨params, body, scope, q, cl, pm, c', ctv, N, σ, t, a1, a2, a3, a4, a5, a6, a7, a8, a9, a10⟩ := C.ex
  exact ⟨params, body, scope, q, cl, pm, c', ctv, N, σ, t, e _ _ a1, e _ _ a2, a3, a4, fun c hc => let ⟨o, v, z, d⟩ := a5 c hc; ⟨o, v, e _ _ z, d⟩, a6,
    fun i x v h1 h2 h3 => let ⟨c, o, u, z1, z2, z3, z4⟩ := a7 i x v h1 h2 h3; ⟨c, o, u, z1, e _ _ z2, z3, z4⟩, a8, a9, a10⟩
theorem CloAt.allFz {P : Program} {w : World} {K : PySem.W.Frag} {mg : Str → Option Value} {base : Heap} {k : Nat} {H : Hp} {f : Addr} {L : List Addr} {tl : XK → Hp → VK → Prop} (C : CloAt P w K mg base k H f L tl) : AllFz L H := by
  obtain ⟨params, body, scope, q, cl, pm, c', ctv, N, σ, t, a1, a2, a3, a4, a5, a6, a7, a8, a9, a10⟩ := C.ex
  exact fun c hc => let ⟨o, v, z, d⟩ := a5 c hc; ⟨o, z⟩

/-- the i-th slot holds a lambda; it is called -/
def tClo (P : Program) (w : World) (K : PySem.W.Frag) (mg : Str → Option Value) (base : Heap) (k i : Nat) (E : St → XK) : TE := fun σ H Q =>
  ∃ (f : Addr) (L : List Addr) (tl : XK → Hp → VK → Prop), σ[i]? = some (some (.ref f)) ∧ CloAt P w K mg base k H f L tl ∧ tl (fun c d H' => (∀ b ∈ L, H' b = none) → E σ c d (rst L H H')) (hid L H) (fun v H' => (∀ b ∈ L, H' b = none) → Q v (rst L H H'))
section
variable {X : Cx}
theorem Env0.hid {P : Program} {w : World} {K : PySem.W.Frag} {mg : Str → Option Value} {base : Heap} {A : Around} {outer : List Env} {s : Shared} {H : Hp} {L : List Addr} (e : Env0 P w K mg base A outer s H) (a : AllFz L H) : Env0 P w K mg base A outer s (hid L H) := by
  have z : ∀ b, H b = none → Jud.hid L H b = none := fun b n => by
    by_cases hb : b ∈ L
    · exact hid_in hb
    · rw [hid_out hb]; exact n
  exact ⟨e.frames, e.mod, fun b o q => ⟨(e.bs b o q).1, z b (e.bs b o q).2⟩, e.bsz, e.funs, fun b hb => z b (e.frf b hb), hok_hid e.hok a, e.bare⟩
/-- the lambda's body begins -/
theorem clo_start {P : Program} {w : World} {K : PySem.W.Frag} {mg : Str → Option Value} {base : Heap} {N : List Str} {q : Str} {scope : Scope} {cl : List (Str × Addr)} {A : Around} {outer : List Env} {s : Shared} {H : Hp} {E : XK} {f c' : Addr} {L : List Addr} {σ : St} {h₁ : Heap} {tk : Nat}
    (S : ClS scope cl) (e0 : Env0 P w K mg base A outer s H) (hd : A.handled = none) (a4 : ∀ x c, cl.lookup x = some c → c ∈ L) (a5 : ∀ c ∈ L, ∃ o v, H c = some (Fz o) ∧ o.data = .cell v) (a6 : σ.length = N.length)
    (a7 : ∀ (i : Nat) (x : Str) (v : V), N[i]? = some x → σ[i]? = some (some v) → scope.names.lookup x = some .free → ∃ c o u, cl.lookup x = some c ∧ H c = some (Fz o) ∧ o.data = .cell (some u) ∧ RelV v u)
    (hns : h₁.Ns s.heap.objs.size fun y => ([] : List (Str × Value)).reverse.lookup y) (kp : ∀ b o, s.heap.get? b = some o → h₁.get? b = some o) :
    Inv (cloCx P w K mg base N q scope cl A outer s (hid L H) E f c') [] σ (hid L H) { s with heap := h₁, toks := tk } := by
  have af : AllFz L H := fun c hc => let ⟨o, v, z, d⟩ := a5 c hc; ⟨o, z⟩
  have e1 := Env0.hid e0 af
  have noA : ∀ b : Addr, b ∉ (cloCx P w K mg base N q scope cl A outer s (hid L H) E f c').ex := fun b z => absurd (show b ∈ ([] : List Addr) from z) (by simp)
  have cellAt : ∀ c ∈ L, ∃ v, h₁.IsCell c v := fun c hc => by
    obtain ⟨o, v, z, d⟩ := a5 c hc
    exact ⟨v, o, kp _ _ (e0.hok c _ z).1, d⟩
  refine ⟨⟨e1.mod, S.kind, rfl, rfl, Nat.le_refl _, S.inj, fun y hy => ?_, fun y c z _ => ?_, fun _ => hd, Around.frames_deeper e1.frames, .inr ⟨rfl, rfl⟩, fun b z => absurd z (noA b), e1.bs, e1.bsz, fun b _ _ => noA b,
      fun b z => absurd z (noA b), e1.funs, e1.frf⟩,
    rfl, e1.bare, Un.kept kp, ⟨_, hns, fun i y v h1 h2 h3 => ?_⟩, fun y c h => ?_, e1.hok.fresh (Nat.le_refl _), fun y c h => hid_in (a4 y c h), fun z hz => absurd (show z ∈ ([] : List (Addr × Obj)) ++ [] from hz) (by simp), e1.hok.kept kp, a6⟩
  · have hy : scope.names.lookup y = some .cell ∨ scope.names.lookup y = some .free := hy
    rcases hy with hy | hy
    · exact absurd rfl (S.own _ (PySem.mem_of_lookup hy)).2
    · exact S.has y hy
  · have z : false = true := z
    cases z
  · have h3 : Vis scope y := h3
    rcases h3 with k | k | k
    · exact absurd rfl (S.own _ (PySem.mem_of_lookup k)).1
    · exact absurd rfl (S.own _ (PySem.mem_of_lookup k)).2
    · obtain ⟨c, o, u, g1, g2, g3, g4⟩ := a7 i y v h1 h2 k
      exact ⟨u, g4, .inr ⟨.inr k, c, g1, o, kp _ _ (e0.hok c _ g2).1, g3⟩⟩
  · exact cellAt c (a4 y c h)
theorem pe_clo {k i : Nat} {a : Str} {E : St → XK} {p1 p2 : Pos} (hx : ∀ σ, PassesAt (L2.CX X.prog X.w) X σ (E σ)) (hr : Rm (k + 1) X.A) (hN : X.N[i]? = some a) (hv : Vis X.env.scope a)
    (hd : (a == ("__debug__" : Str)) = false := by decide) (hcd : (a == ("__classdict__" : Str)) = false := by decide) :
    PE X (.Call (.Name a p1) [] [] p2) (tClo X.prog X.w X.K X.mg X.base k i E) := by
  refine ⟨fun pins s σ H Q I h => ?_⟩
  obtain ⟨f, L, tl, hs, C, ht⟩ := h
  refine wpAny_Call_Name_kw (thn ((pe_var (pos := p1) (i := i) hN hv hd hcd).run pins s σ H (fun v H1 => v = .ref f ∧ H1 = H) I ⟨.ref f, hs, rfl, rfl⟩) fun u s1 ⟨v, H1, I1, r1, q1⟩ => ?_)
  obtain ⟨ev, eH⟩ := q1
  subst ev
  subst eH
  obtain rfl : u = Value.ref f := r1
  have af := C.allFz
  obtain ⟨params, body, scope, q, cl, pm, c', ctv, N, σL, t, a1, a2, a3, a4, a5, a6, a7, a8, a9, a10⟩ := C.ex
  subst a10
  have of1 : s1.heap.get? f = some (PySem.W.kla_obj "<lambda>" q params body scope cl pm c' ctv) := (I1.hok f _ a1).1
  refine PySem.W.callWith_F0 ⟨_, _, _, _, of1⟩ ?_
  obtain ⟨⟨oc, vs, tt, hoc, hdc, hvc⟩, _, _⟩ := I1.hok c' _ a2
  have e0 := I1.env0
  have rc : codeAny (model X.prog X.w) X.A (.call (.ref f) ⟨[], []⟩)
      (CR (L2.CX X.prog X.w) X.stack X.prog X.w (hid L H1) s1 (fun v H' => (∀ b ∈ L, H' b = none) → Q v (rst L H1 H')) (fun c d H' => (∀ b ∈ L, H' b = none) → E σ c d (rst L H1 H'))) s1 := by
    refine PySem.W.kla_callFunE hr.room.depth of1 rfl a3.co a3.gen rfl ⟨c', oc, vs, tt, rfl, hoc, hdc, hvc⟩ ?_
    rw [a8]
    refine wpAny_pure (wpAny_newFunctionEnv (fun y hy => (a3.own y hy).2) (fun y hy => absurd hy (by simp)) (fun h₁ hns hsb => ⟨I1.nolimit.fresh _ hsb, ?_⟩) a3.kind)
    show codeAny _ _ (.expr body (cloEnv q scope cl s1.heap.objs.size f c')) _ _
    have kp : ∀ b o, s1.heap.get? b = some o → h₁.get? b = some o := fun b o e => hsb.extBut b o (Nat.ne_of_lt (Heap.lt_size e)) (Heap.get?_push_of_some _ e)
    have J := clo_start (E := fun c d H' => (∀ b ∈ L, H' b = none) → E σ c d (rst L H1 H')) (q := q) (f := f) (c' := c') (tk := s1.toks + ([] : List (Str × Value)).length) a3 e0 hr.room.hd a4 a5 a6 a7 hns kp
    refine PySem.W.kla_codeExpr (wpAny_mono ((a9 _ _ s1 (hid L H1) _ (hr.deeper _)).run [] _ _ (hid L H1) _ J ht) (fun v s' hq => ?_) fun e s' hq => hq)
    obtain ⟨w', H', J', rv, qq⟩ := hq
    exact ⟨w', H', J'.os, J'.bare, J'.base, J'.hok, rv, qq⟩
  refine wpAny_call (codeAny_mono rc fun r s' hq => ?_)
  cases r with
  | error e => exact hx σ pins H1 s1 e s' I1 (cx_hid I1.hok af e0.frf hq)
  | ok fl =>
    cases fl with
    | ret u => exact I1.after (ce_hid I1.hok af e0.frf hq)
    | next => exact False.elim hq
    | brk => exact False.elim hq
    | cont => exact False.elim hq
end
end Jud
set_option Elab.async false
set_option linter.all false
set_option maxRecDepth 100000
set_option maxHeartbeats 4000000
/-! x(lambda: body, ..): a lambda made and handed to a def of the text. -/
namespace Jud
open PySem PySem.Spec L2 LamX
open PyProof.Rows hiding St

section
variable {X : Cx} {pins : List (Addr × Obj)} {σ : St} {H : Hp} {s : Shared}
theorem nofr_of (I : Inv X pins σ H s) {f : Addr} (hf : s.heap.objs.size ≤ f) : f ∉ frs X.stack := fun z => by
  rcases List.mem_cons.mp (I.stkSub _ z) with e | e
  · have h1 := I.lt
    rw [← e] at h1
    exact Nat.lt_irrefl _ (Nat.lt_of_lt_of_le h1 hf)
  · exact I.nofs hf e
/-- a lambda is made; all that is known of it -/
theorem lam_made {T : List (Addr × Str)} {c P : Addr} {params : Arguments} {body : Expr} {scope : Scope} {pos : Pos} {E : Value → Shared → Prop} {Q : Value → Shared → Prop} (I : Inv X pins σ H s) (TB : TabB X.base X.mg c P) (hcode : X.env.code = .ref c)
    (hm : (P, X.env.qual ++ "<lambda>") ∈ T) (hu : ∀ p ∈ T, p.1 = P → p.2 = X.env.qual ++ "<lambda>") (hT : Tabs T H) (hdef : defaultsOf params X.env = ([], [])) (hfree : ∀ y ∈ scope.names, y.2 = .free → ∃ c, X.env.cells.lookup y.1 = some c)
    (h : ∀ (f c' : Addr) (pm ctv : Value) (H1 : Hp) (s' : Shared), Inv X pins σ H1 s' → ExtN H H1 → Tabs T H1 → s.heap.objs.size ≤ f →
      s'.heap.get? f = some (PySem.W.kla_obj "<lambda>" (X.env.qual ++ "<lambda>") params body scope (cloFrom X.env.cells scope.names []) pm c' ctv) → H1 f = none → H1 c' = some (CodeO c' (X.env.qual ++ "<lambda>")) → Q (.ref f) s') :
    wpAny (model X.prog X.w) X.A (eval (.Lambda params body scope pos) X.env) Q E s := by
  obtain ⟨ps, hP, ht, ha⟩ := hT _ hm
  have bP : s.heap.BuiltinsAt X.mg P := TB.bm.keeps I.bk
  have hP' : s.heap.get? P = some { cls := .none, data := .fields ps } := I.hok P _ hP
  refine PySem.W.kla_eval hdef ?_
  cases hc : codeAmong pos ps.toList with
  | some cv =>
    obtain ⟨c', e, hco⟩ := ha pos cv hc
    subst e
    refine PySem.W.kla_makeFunctionHit (mg := X.mg) (c := c) (P := P) (ps := ps) (closure_ok hfree) I.ok.glob (I.mod.glob.keeps I.bk) hcode (TB.code.keeps I.bk) hP' ht hc bP fun ctv h' tk hx hsz => ?_
    exact h h'.objs.size c' _ ctv H _ (I.kept fun b o e => Heap.get?_push_of_some _ (hx b o e)) (ExtN.refl H) hT hsz (Heap.get?_push_size _ rfl) (I.hok.fresh hsz) hco
  | none =>
    refine PySem.W.kla_makeFunction (mg := X.mg) (c := c) (P := P) (ps := ps) (closure_ok hfree) I.ok.glob (I.mod.glob.keeps I.bk) hcode (TB.code.keeps I.bk) hP' ht hc TB.gP bP fun c' ctv h' tk hx hge hlt hrec htb => ?_
    obtain ⟨c2, oc, vs, t, e2, hoc, hd, hv⟩ := hrec
    cases e2
    have hsz : s.heap.objs.size ≤ h'.objs.size := Nat.le_trans hge (Nat.le_of_lt hlt)
    have nC : H c' = none := I.hok.fresh hge
    have I1 := inv_table (t' := tk) (more := #[rawInt pos.line, rawInt pos.col, .ref c']) (h' := h'.push (PySem.W.kla_obj "<lambda>" (X.env.qual ++ "<lambda>") params body scope (cloFrom X.env.cells scope.names []) ((X.mg "__name__").getD .none) c' ctv)) I hP
      (fun b o hb e => Heap.get?_push_of_some _ (hx b o hb e)) (Heap.get?_push_of_some _ htb) hge ⟨oc, vs, t, Heap.get?_push_of_some _ hoc, hd, hv⟩
    have hE : ExtN H (upd (upd H P (.tbl (ps ++ #[rawInt pos.line, rawInt pos.col, .ref c']))) c' (CodeO c' (X.env.qual ++ "<lambda>"))) := fun b o e n => by
      have n1 : b ≠ c' := ne_of_none e nC
      have n2 : b ≠ P := fun z => n ps (by rw [z, hP] at e; exact (Option.some.inj e).symm)
      rw [upd_ne n1, upd_ne n2]
      exact e
    have eL : (ps ++ #[rawInt pos.line, rawInt pos.col, .ref c']).toList = ps.toList ++ [rawInt pos.line, rawInt pos.col, .ref c'] := by simp
    have nPc : P ≠ c' := ne_of_none hP nC
    refine h h'.objs.size c' _ ctv _ _ I1 hE (fun p hp => ?_) hsz (Heap.get?_push_size _ rfl) ?_ upd_same
    · by_cases hb : p.1 = P
      · refine ⟨ps ++ #[rawInt pos.line, rawInt pos.col, .ref c'], by rw [hb, upd_ne nPc, upd_same], by rw [eL]; exact PySem.TriplesOk_snoc _ _ _ _ ht, fun p' cv hcv => ?_⟩
        rw [hu p hp hb]
        rw [eL] at hcv
        rcases among_app _ ht hcv with z | z
        · obtain ⟨c0, e1, e2⟩ := ha p' cv z
          exact ⟨c0, e1, hE _ _ e2 codeO_ne⟩
        · exact ⟨c', z, upd_same⟩
      · obtain ⟨ps', a1, a2, a3⟩ := hT p hp
        refine ⟨ps', ?_, a2, fun p' cv hcv => ?_⟩
        · have n1 : p.1 ≠ c' := ne_of_none a1 nC
          rw [upd_ne n1, upd_ne hb]
          exact a1
        · obtain ⟨c0, e1, e2⟩ := a3 p' cv hcv
          exact ⟨c0, e1, hE _ _ e2 codeO_ne⟩
    · have n1 : h'.objs.size ≠ c' := Nat.ne_of_gt hlt
      have n2 : h'.objs.size ≠ P := Nat.ne_of_gt (Nat.lt_of_lt_of_le (Heap.lt_size hP') hsz)
      rw [upd_ne n1, upd_ne n2]
      exact I.hok.fresh hsz
/-- the objects at some addresses -/
def objsAt (h : Heap) (cs : List Addr) : List (Addr × Obj) := cs.filterMap fun c => (h.get? c).map fun o => (c, o)
theorem objsAt_of {h : Heap} {cs : List Addr} {p : Addr × Obj} (hp : p ∈ objsAt h cs) : p.1 ∈ cs ∧ h.get? p.1 = some p.2 := by
  obtain ⟨c, hc, e⟩ := List.mem_filterMap.mp hp
  obtain ⟨o, ho, e2⟩ := Option.map_eq_some_iff.mp e
  subst e2
  exact ⟨hc, ho⟩
theorem objsAt_mem {h : Heap} {cs : List Addr} {c : Addr} {o : Obj} (hc : c ∈ cs) (e : h.get? c = some o) : (c, o) ∈ objsAt h cs :=
  List.mem_filterMap.mpr ⟨c, hc, by rw [e]; rfl⟩
theorem lookup_objsAt {h : Heap} {cs : List Addr} {c : Addr} {o : Obj} (hc : c ∈ cs) (e : h.get? c = some o) : (objsAt h cs).lookup c = some o := by
  obtain ⟨o2, h1, h2⟩ := lookup_in (List.mem_map.mpr ⟨_, objsAt_mem hc e, rfl⟩)
  have h3 : h.get? c = some o2 := (objsAt_of h2).2
  rw [h3] at e
  rw [h1, ← e]

/-- what x(lambda: .., es) asks: sp the promise of x, t the reading of the lambda's body -/
def tLamCall (P : Program) (w : World) (K : PySem.W.Frag) (mg : Str → Option Value) (base : Heap) (k : Nat) (q : Str) (T : List (Addr × Str)) (sp : Sp) (E : XK) (t : XK → TE) (ta : TA) : TE := fun σ H Q => Tabs T H ∧
  ∀ (c' : Addr) (H1 : Hp), ExtN H H1 → Tabs T H1 → H1 c' = some (CodeO c' q) → ta σ H1 fun vs H2 => H2 c' = some (CodeO c' q) ∧
    ∀ (f : Addr) (L : List Addr) (H3 : Hp), f ∉ L → H2 f = none → (∀ b ∈ L, H2 b = none) → Same H2 H3 → (∀ b, b ≠ f → b ∉ L → H3 b = H2 b) → CloAt P w K mg base k H3 f L (fun E' H' Q' => t E' σ H' Q') →
      sp (.ref f :: vs) H3 (fun v H' => Q v (hid (f :: L) H')) (fun c d H' => E c d (hid (f :: L) H'))
theorem pe_lam {T : List (Addr × Str)} {c P : Addr} {k k2 : Nat} {x : Str} {ps : List Str} {sp : Sp} {E : XK} {params : Arguments} {body : Expr} {scope : Scope} {t : XK → TE} {es : List Expr} {ta : TA} {p lpos pos : Pos}
    (D : Def X.prog X.w X.K X.mg X.base k2 x ps sp) (hr : Rm k2 X.A) (hx : Passes (L2.CX X.prog X.w) X E) (TB : TabB X.base X.mg c P) (hcode : X.env.code = .ref c) (hmT : (P, X.env.qual ++ "<lambda>") ∈ T) (hu : ∀ p ∈ T, p.1 = P → p.2 = X.env.qual ++ "<lambda>")
    (S : LamS X.env.scope scope) (hdef : defaultsOf params X.env = ([], [])) (hbind : ∀ (q : Str) (cl : List (Str × Addr)) (pm cv ctv : Value), bindArgs (PySem.W.kla_fn "<lambda>" q params body scope cl pm cv ctv) ⟨[], []⟩ = pure [])
    (hfn : ∀ y, X.fn y = true)
    (hbody : ∀ (A : Around) (outer : List Env) (s : Shared) (H : Hp) (E : XK) (f c' : Addr) (cl : List (Str × Addr)), Rm k (A.deeper (cloEnv (X.env.qual ++ "<lambda>") scope cl s.heap.objs.size f c')) → PE (cloCx X.prog X.w X.K X.mg X.base X.N (X.env.qual ++ "<lambda>") scope cl A outer s H E f c') body (t E))
    (ha : PA X es ta) (hg : Gl X x := by rfl) (hdb : (x == ("__debug__" : Str)) = false := by decide)
    (he : starEach (.Lambda params body scope lpos :: es) X.env = (false, eval (.Lambda params body scope lpos) X.env) :: starEach es X.env := by rfl) (hpl : (backTo pos (starEach es X.env)).any (·.1) = false := by rfl) :
    PE X (.Call (.Name x p) (.Lambda params body scope lpos :: es) [] pos) (tLamCall X.prog X.w X.K X.mg X.base k (X.env.qual ++ "<lambda>") T sp E t ta) := by
  refine ⟨fun pins s σ H Q I h => ?_⟩
  obtain ⟨hT, h⟩ := h
  obtain ⟨g, hm, hk, fd, _, hb, F⟩ := D.ex
  refine wpAny_Call_Name_kw (ld_glob I hg hm ?_ hdb)
  refine PySem.W.callWith_K (h₀ := X.base) I.ok.mod.kin hk ?_ he hpl
  rw [he]
  show wpAny _ _ (spliced ((false, eval (.Lambda params body scope lpos) X.env) :: backTo pos (starEach es X.env))) _ _ s
  refine Calls.spliced_cons (lam_made I TB hcode hmT hu hT hdef (S.has I.ok) fun f c' pm ctv H1 s' I1 eN T1 hsz hf hfn1 hco => ?_)
  -- the function is kept while the other arguments are worked out
  have Ip : Inv X ((f, PySem.W.kla_obj "<lambda>" (X.env.qual ++ "<lambda>") params body scope (cloFrom X.env.cells scope.names []) pm c' ctv) :: pins) σ H1 s' := by
    refine I1.pins_of fun q hq => ?_
    rcases List.mem_cons.mp hq with e | hq
    · subst e
      refine ⟨hf, hfn1, fun z => ?_, I.nofs hsz, fun v z => by cases z⟩
      have := I.lt
      rw [← z] at this
      exact Nat.lt_irrefl _ (Nat.lt_of_lt_of_le this hsz)
    · exact I1.pin q (List.mem_append_right _ hq)
  refine thn (ha.run pos _ s' σ H1 _ Ip (h c' H1 eN T1 hco)) fun us s2 ⟨vs, H2, I2, r2, hc2, hq2⟩ => ?_
  refine ⟨I2.kIn, ?_⟩
  obtain ⟨hf2, nf2, _, _, _⟩ := I2.pin (f, PySem.W.kla_obj "<lambda>" (X.env.qual ++ "<lambda>") params body scope (cloFrom X.env.cells scope.names []) pm c' ctv) (List.mem_append_right _ List.mem_cons_self)
  have J2 : Inv X pins σ H2 s2 := I2.pins_of fun q hq => I2.pin q (List.mem_append_right _ (List.mem_cons_of_mem _ hq))
  -- the cells
  have cm : ∀ {y c}, (cloFrom X.env.cells scope.names []).lookup y = some c → X.env.cells.lookup y = some c := fun {y c} e => by
    rcases cloFrom_mem (PySem.mem_of_lookup e) with hm | ⟨h1, h2⟩
    · cases hm
    · obtain ⟨c1, hc⟩ := S.has I.ok _ h1 rfl
      have hc : X.env.cells.lookup y = some c1 := hc
      rw [h2, hc]
      rfl
  have cellL : ∀ c ∈ (cloFrom X.env.cells scope.names []).map (·.2), ∃ y, X.env.cells.lookup y = some c := fun c hc => by
    obtain ⟨q, hq, e⟩ := List.mem_map.mp hc
    obtain ⟨y, c1⟩ := q
    have e : c1 = c := e
    subst e
    rcases cloFrom_mem hq with hm | ⟨h1, h2⟩
    · cases hm
    · obtain ⟨c2, hc2⟩ := S.has I.ok _ h1 rfl
      have hc2 : X.env.cells.lookup y = some c2 := hc2
      refine ⟨y, ?_⟩
      rw [h2, hc2]
      rfl
  generalize hcs : (cloFrom X.env.cells scope.names []).map (·.2) = cs at cellL
  have lin : ∀ q ∈ (f, PySem.W.kla_obj "<lambda>" (X.env.qual ++ "<lambda>") params body scope (cloFrom X.env.cells scope.names []) pm c' ctv) :: objsAt s2.heap cs, s2.heap.get? q.1 = some q.2 ∧ H2 q.1 = none := fun q hq => by
    rcases List.mem_cons.mp hq with e | hq
    · subst e
      exact ⟨hf2, nf2⟩
    · obtain ⟨h1, h2⟩ := objsAt_of hq
      obtain ⟨y, e⟩ := cellL _ h1
      exact ⟨h2, J2.freeC y _ e⟩
  have fcell : f ∉ (objsAt s2.heap cs).map (·.1) := fun hfc => by
    obtain ⟨q, hq, e⟩ := List.mem_map.mp hfc
    obtain ⟨h1, h2⟩ := objsAt_of hq
    obtain ⟨y, ey⟩ := cellL _ h1
    obtain ⟨v, o, ho, hd⟩ := J2.cell y _ ey
    rw [e, hf2] at ho
    cases ho
    cases hd
  have notfr : ∀ q ∈ (f, PySem.W.kla_obj "<lambda>" (X.env.qual ++ "<lambda>") params body scope (cloFrom X.env.cells scope.names []) pm c' ctv) :: objsAt s2.heap cs, q.1 ∉ frs X.stack ∧ X.base.get? q.1 = none := fun q hq => by
    rcases List.mem_cons.mp hq with e | hq
    · subst e
      exact ⟨nofr_of I hsz, Heap.get?_none_of_le (Nat.le_trans I.ok.bsz (Nat.le_trans I.sz hsz))⟩
    · obtain ⟨h1, h2⟩ := objsAt_of hq
      obtain ⟨y, e⟩ := cellL _ h1
      have hab := I.ok.cab y _ (hfn y) e
      refine ⟨fun z => ?_, Heap.get?_none_of_le (Nat.le_trans I.ok.bsz hab)⟩
      rcases List.mem_cons.mp (J2.stkSub _ z) with e2 | e2
      · exact J2.cne y _ e e2
      · obtain ⟨_, o, ho, _⟩ := I.ok.funs.mem e2
        exact Nat.lt_irrefl _ (Nat.lt_of_lt_of_le (Heap.lt_size ho) hab)
  have fobj : fzs ((f, PySem.W.kla_obj "<lambda>" (X.env.qual ++ "<lambda>") params body scope (cloFrom X.env.cells scope.names []) pm c' ctv) :: objsAt s2.heap cs) H2 f = some (Fz (PySem.W.kla_obj "<lambda>" (X.env.qual ++ "<lambda>") params body scope (cloFrom X.env.cells scope.names []) pm c' ctv)) :=
    fzs_in (by simp [List.lookup])
  have fcel : ∀ c ∈ cs, ∀ o, s2.heap.get? c = some o → fzs ((f, PySem.W.kla_obj "<lambda>" (X.env.qual ++ "<lambda>") params body scope (cloFrom X.env.cells scope.names []) pm c' ctv) :: objsAt s2.heap cs) H2 c = some (Fz o) := fun c hc o ho => by
    have hne : c ≠ f := fun z => fcell (by rw [← z]; exact List.mem_map.mpr ⟨_, objsAt_mem hc ho, rfl⟩)
    have hb : (c == f) = false := by simpa using hne
    exact fzs_in (by simp only [List.lookup, hb]; exact lookup_objsAt hc ho)
  generalize hl : (f, PySem.W.kla_obj "<lambda>" (X.env.qual ++ "<lambda>") params body scope (cloFrom X.env.cells scope.names []) pm c' ctv) :: objsAt s2.heap cs = l at lin notfr fobj fcel
  have hlm : l.map (·.1) = f :: (objsAt s2.heap cs).map (·.1) := by rw [← hl]; rfl
  have same3 : Same H2 (fzs l H2) := fun b o e => by
    refine (fzs_out ?_).trans e
    cases z : l.lookup b with
    | none => rfl
    | some o2 =>
      have := (lin _ (lookup_mem z)).2
      rw [e] at this; cases this
  have cs_of : ∀ c ∈ (objsAt s2.heap cs).map (·.1), ∃ o, c ∈ cs ∧ s2.heap.get? c = some o := fun c hc => by
    obtain ⟨q, hq, e⟩ := List.mem_map.mp hc
    obtain ⟨h1, h2⟩ := objsAt_of hq
    rw [← e]
    exact ⟨_, h1, h2⟩
  have cell_in : ∀ y c, (cloFrom X.env.cells scope.names []).lookup y = some c → c ∈ cs := fun y c e => by
    rw [← hcs]
    exact List.mem_map.mpr ⟨_, PySem.mem_of_lookup e, rfl⟩
  have clo : CloAt X.prog X.w X.K X.mg X.base k (fzs l H2) f ((objsAt s2.heap cs).map (·.1)) (fun E' H' Q' => t E' σ H' Q') := by
    refine ⟨params, body, scope, X.env.qual ++ "<lambda>", cloFrom X.env.cells scope.names [], pm, c', ctv, X.N, σ, t, fobj, same3 _ _ hc2, ⟨S.kind, S.co, S.gen, S.own, fun y hl => ?_, fun y z c e1 e2 => I.ok.inj y z c (cm e1) (cm e2)⟩, fun y c e => ?_, fun c hc => ?_, J2.len, fun i y v e1 e2 e3 => ?_, hbind _ _ _ _ _, fun A outer s H E hr => hbody A outer s H E f c' _ hr, rfl⟩
    · have hy : (y, NameKind.free) ∈ scope.names := PySem.mem_of_lookup hl
      obtain ⟨c, hc⟩ := S.has I.ok _ hy rfl
      exact mem_lookup (cloFrom_has (cells := X.env.cells) (acc := []) hy)
    · obtain ⟨v, o, ho, hd⟩ := J2.cell y c (cm e)
      exact List.mem_map.mpr ⟨_, objsAt_mem (cell_in y c e) ho, rfl⟩
    · obtain ⟨o, hc1, ho⟩ := cs_of c hc
      obtain ⟨y, e⟩ := cellL _ hc1
      obtain ⟨v, o2, ho2, hd⟩ := J2.cell y c e
      rw [ho] at ho2; cases ho2
      exact ⟨o, v, fcel c hc1 o ho, hd⟩
    · have hy : (y, NameKind.free) ∈ scope.names := PySem.mem_of_lookup e3
      obtain ⟨c, hc⟩ := mem_lookup (cloFrom_has (cells := X.env.cells) (acc := []) hy)
      have hvis : Vis X.env.scope y := (S.free _ hy rfl).elim (fun z => .inr (.inl z)) (fun z => .inr (.inr z))
      obtain ⟨m, hn, hlk⟩ := J2.loc
      obtain ⟨u, ru, q⟩ := hlk i y v e1 e2 hvis
      rcases q with ⟨k', _⟩ | ⟨_, c3, e', z⟩
      · have k' : X.env.scope.names.lookup y = some .local := k'
        rcases S.free _ hy rfl with k2 | k2 <;> rw [show X.env.scope.names.lookup y = _ from k2] at k' <;> cases k'
      · rw [cm hc] at e'
        cases e'
        obtain ⟨o, ho, hd⟩ := z
        exact ⟨c, o, u, hc, fcel c (cell_in y c hc) o ho, hd, ru⟩
  have e2 := J2.env0
  have lout : ∀ b, b ∉ l.map (·.1) → fzs l H2 b = H2 b := fun b hb => fzs_out (lookup_out hb)
  have e3 : Env0 X.prog X.w X.K X.mg X.base X.A X.stack s2 (fzs l H2) :=
    ⟨e2.frames, e2.mod, fun b o q => ⟨(e2.bs b o q).1, by
        rw [lout b fun hb => ?_]
        · exact (e2.bs b o q).2
        · obtain ⟨p, hp, e⟩ := List.mem_map.mp hb
          have := (notfr p hp).2
          rw [e, q] at this; cases this⟩, e2.bsz, e2.funs, fun b hb => by
        rw [lout b fun hb2 => ?_]
        · exact e2.frf b hb
        · obtain ⟨p, hp, e⟩ := List.mem_map.mp hb2
          exact (notfr p hp).1 (by rw [e]; exact hb), hok_fzs J2.hok lin, e2.bare⟩
  have hsp := hq2 f ((objsAt s2.heap cs).map (·.1)) (fzs l H2) fcell nf2 (fun b hb => by
      obtain ⟨q, hq, e⟩ := List.mem_map.mp hb
      rw [← e]
      exact (lin q (by rw [← hl]; exact List.mem_cons_of_mem _ hq)).2) same3 (fun b h1 h2 => lout b (by rw [hlm]; intro z; rcases List.mem_cons.mp z with z | z; exact h1 z; exact h2 z)) clo
  rw [← hlm] at hsp
  have hlen := F.len _ _ _ _ hsp
  have rr : Vals (V.ref f :: vs) (Value.ref f :: us) := .cons rfl r2
  have hb2 := hb s2 (Value.ref f :: us) J2.kIn (by rw [List.append_nil, ← rr.length]; exact hlen)
  rw [List.append_nil] at hb2
  show wpAny _ _ (call (.ref g) (Value.ref f :: us)) _ _ _
  refine wpAny_call (codeAny_mono (F.run X.A X.stack s2 (fzs l H2) ⟨Value.ref f :: us, []⟩ _ _ _ _ hr e3 hb2 rr hsp) fun r s3 hq => ?_)
  cases r with
  | error e => exact hx pins σ H2 s2 e s3 J2 (cx_add lin (fun p hp => (notfr p hp).1) hq)
  | ok fl =>
    cases fl with
    | ret u => exact J2.after (ce_add lin hq)
    | next => exact False.elim hq
    | brk => exact False.elim hq
    | cont => exact False.elim hq
end
end Jud
set_option Elab.async false
set_option linter.all false
set_option maxRecDepth 100000
set_option maxHeartbeats 4000000
/-! An own exception whose __init__ says super().__init__('..') and keeps its argument in a field; it is made, raised, caught, kept as a value, asked. -/
namespace Jud
open PySem PySem.Spec L2 LamX
open PyProof.Rows hiding St wpAt

/-! ### the class and its __init__ as they stand -/
def eArgs (f : Str) (p1 p2 : Pos) : Arguments := { posonlyargs := [], args := [{ arg := "self", annotation := none, pos := p1 }, { arg := f, annotation := none, pos := p2 }], vararg := none, kwonlyargs := [], kw_defaults := [], kwarg := none, defaults := [] }
def eBody (f m : Str) (j : Nat) (a1 a2 a3 a4 a5 a6 b1 b2 b3 b4 : Pos) : List Stmt :=
  [.Expr (.Call (.Attribute (.Call (.Name "super" a1) [] [] a2) "__init__" a3) [.Constant (.str m) j a4] [] a5) a6, .Assign [.Attribute (.Name "self" b1) f b2] (.Name f b3) b4]
def eScope (f : Str) : Scope := { kind := .function, names := [(PySem.Str.ofString "self", .local), (f, .local), (PySem.Str.ofString "__class__", .free), (PySem.Str.ofString "super", .globalImplicit)], isGenerator := false, isCoroutine := false, more := [] }
/-- what is asked of the field's name -/
structure FldName (f : Str) : Prop where
  s1 : (eScope f).names.lookup ("super" : Str) = some .globalImplicit
  s2 : (eScope f).names.lookup ("__class__" : Str) = some .free
  s3 : (eScope f).names.lookup ("self" : Str) = some .local
  s4 : (eScope f).names.lookup f = some .local
  ne : ¬ f = ("self" : Str)
  db : (f == ("__debug__" : Str)) = false
  bd : ∀ (qual : Str) (body : List Stmt) (doc pm : Value) (an : Option Addr) (cda cc : Addr) (ct : Value) (p1 p2 : Pos) (e : Addr) (v : Value),
    bindArgs (PySem.W.ksFn "__init__" qual (eArgs f p1 p2) body (eScope f) .none .none doc pm an (.ref cda) ct cc) ⟨[.ref e, v], []⟩ = pure [((PySem.Str.ofString "self" : Str), Value.ref e), (f, v)]
/-- an own exception class with such an __init__: C the class, x its name, f the field -/
structure ErrC (P : Program) (K : PySem.W.Frag) (mg : Str → Option Value) (x f : Str) (C : Addr) : Prop where
  gC : mg x = some (.ref C)
  nm : FldName f
  cls : ∃ nm q N bs bm sn sub ab col dd k0 k1 k2 k3 k5, K.lookup C = some (excClassObj nm q C N bs bm true sn sub ab col dd k0 k1 k2 k3 k5 "ValueError.__new__") ∧ HandSPX.refsVE bm = true ∧ PySem.W.alongIn K "__init__" bm = some (some (.builtin "ValueError.__init__"))
  sa : PySem.W.findIn K (.ref C) "__setattr__" = some (some (.builtin "object.__setattr__"))
  noN : PySem.W.findIn K (.ref C) f = some none
  kC : PySem.W.keepIn K (.ref C) = true
  exC : PySem.W.subIn K (.ref C) (.type "BaseException") = some true
  exV : PySem.W.subIn K (.ref C) (.type "ValueError") = some true
  tyC : PySem.W.typeIn K (.ref C) = some (.type "type")
  mroC : PySem.W.mroIn K C (.ref C) = some true
  op : PySem.W.nsIn K PySem.cStatics "thirdparty.any" = some none
  nsup : mg "super" = none
  top : (P.main.scope.names.lookup ("super" : Str)).isSome = false
  init : ∃ fI, PySem.W.findIn K (.ref C) "__init__" = some (some (.ref fI)) ∧ PySem.W.typeIn K (.ref fI) = some (.type "function") ∧
    ∃ (oc : Value) (od : Option Addr) (qual m : Str) (doc pm : Value) (an : Option Addr) (cda cc : Addr) (ct : Value) (osl : Array (Option Value)) (j : Nat) (p1 p2 a1 a2 a3 a4 a5 a6 b1 b2 b3 b4 : Pos),
      (a3.endLine == a5.line) = true ∧ K.lookup fI = some ⟨oc, od, .func (PySem.W.ksFn "__init__" qual (eArgs f p1 p2) (eBody f m j a1 a2 a3 a4 a5 a6 b1 b2 b3 b4) (eScope f) .none .none doc pm an (.ref cda) ct cc), osl⟩ ∧ PySem.W.codeIn K (.ref cda) qual = true ∧
      (∃ (ccl : Value) (cdd : Option Addr) (vs : Array Value) (ccs : Array (Option Value)) (file : Str) (tf : Tok), K.lookup cda = some ⟨ccl, cdd, .fields vs, ccs⟩ ∧ vs[2]? = some (.str file tf) ∧ ((P.main.file : Str) == file) = true) ∧
      ∃ (cl : Value) (cld : Option Addr) (csl : Array (Option Value)), K.lookup cc = some ⟨cl, cld, .cell (some (.ref C)), csl⟩

section
variable {M : Model} {A : Around} {E : Value → Shared → Prop} {s : Shared} {env : Env} {c : Code}
/-- o.name(a) where the method's name and the call stand on one row: at a known activation -/
theorem at_method1 {o a : Expr} {name : Str} {apos pos : Pos} {Q : Value → Shared → Prop} (hline : (apos.endLine == pos.line) = true) (hst : starEach [a] env = [(false, eval a env)])
    (h : PySem.wpAt M A c (attributeBase o name env (eval o env)) (fun ov s₁ => wpAny M A (getMethod ov name (do return (← importBound o env).getD true)) (fun fx s₂ => wpAny M A (callWith pos fx.1 fx.2 (backTo pos (starEach [a] env)) []) Q E s₂) E s₁) E s) :
    PySem.wpAt M A c (eval (.Call (.Attribute o name apos) [a] [] pos) env) Q E s := by
  rw [arm_eval_Call]
  refine PySem.wpAt_bind (PySem.wpAt_mono h (fun ov s₁ h₁ => PySem.wpAt_of_wpAny (wpAny_bind (wpAny_standAt ?_))) fun _ _ x => x)
  have hform : methodCallForm ([a].length + ([] : List Keyword).length) (backTo pos (starEach [a] env)) (backToKw pos (keywordEach [] env)) = true := by rw [hst]; rfl
  have hpos : methodCallPos true o env apos pos = pure pos := by unfold methodCallPos; simp [hline]
  unfold methodCall
  rw [hform]
  refine wpAny_bind (wpAny_holding (wpAny_mono h₁ (fun fx s₂ h₂ => ?_) fun _ _ x => x))
  exact wpAny_bind (wpAny_of_eq hpos h₂)
end
section
variable {prog : Program} {w : World} {A : Around} {E : Value → Shared → Prop} {R : Result → Shared → Prop} {s : Shared} {K : PySem.W.Frag} {mg : Str → Option Value} {C : Addr} {x f : Str}
theorem exc_ne {h : Heap} {nm q : Str} {N : Addr} {bs bm : List Value} {sn : List Str} {sub : List Value} {ab : Bool} {col : Option Bool} {dd : Option Addr} {k0 k1 k2 k3 k5 : Option Value} {newId : String} {e t0 : Addr}
    (hC : h.get? C = some (excClassObj nm q C N bs bm true sn sub ab col dd k0 k1 k2 k3 k5 newId)) (he : h.get? e = some (HandSPX.excO C t0)) : e ≠ C := by
  intro z
  rw [z, hC] at he
  have h1 := congrArg Obj.data (Option.some.inj he)
  cases h1
/-- the __init__ of such a class, from a fresh exception on -/
theorem err_init (T : ErrC prog K mg x f C) {fI e t0 : Addr} {v : Value} (hfI : PySem.W.findIn K (.ref C) "__init__" = some (some (.ref fI))) (X : K.In s.heap) (hg : s.heap.Ns mainGlobals mg) (hb : ∃ mb, s.heap.Ns builtinsNs mb ∧ ∀ x : Str, x ≠ "__name__" → mb x = bootBuiltins x) (hlim : s.heap.NoLimit)
    (he : s.heap.get? e = some (HandSPX.excO C t0)) (hne : K.lookup e = none) (ng : ∀ n m, s.heap.Ns n m → n ≠ e) (hroom : A.depth < recursionLimit)
    (hq : ∀ h' tk dx t1, (∀ b o, b ≠ e → s.heap.get? b = some o → h'.get? b = some o) → h'.get? e = some { cls := .ref C, dict := some dx, data := .fields #[.ref t1, .none, .none, .none, .bool false, .none] } → s.heap.objs.size ≤ dx → dx ≠ e →
      h'.Ns1 dx (fun y => if y = f then some v else none) → R (.ok (.ret .none)) { s with heap := h', toks := tk }) :
    codeAny (model prog w) A (.call (.ref fI) ⟨[.ref e, v], []⟩) R s := by
  obtain ⟨fI', h1, tI, oc, od, qual, m, doc, pm, an, cda, cc, ct, osl, j, p1, p2, a1, a2, a3, a4, a5, a6, b1, b2, b3, b4, hline, ho, hcd, ⟨ccl, cdd, vs, ccs, file, tf, hcode, hvs, hfile⟩, cl, cld, csl, hcell⟩ := T.init
  obtain rfl : fI' = fI := by rw [hfI] at h1; cases h1; rfl
  obtain ⟨nm, q, N, bs, bm, sn, sub, ab, col, dd, k0, k1, k2, k3, k5, hC, hbm, hal⟩ := T.cls
  have hcl : PySem.W.clsIn K C = some { name := nm, bases := bs, mro := .ref C :: bm, ns := N, qualname := q, hasDict := true, slotNames := sn, subclasses := sub, abstract := ab, collection := col, hasDel := false } := by unfold PySem.W.clsIn; rw [hC] <;> rfl
  have F := T.nm
  refine ks_codeAny_call_defAt (fd := PySem.W.ksFn "__init__" qual (eArgs f p1 p2) (eBody f m j a1 a2 a3 a4 a5 a6 b1 b2 b3 b4) (eScope f) .none .none doc pm an (.ref cda) ct cc) (body := eBody f m j a1 a2 a3 a4 a5 a6 b1 b2 b3 b4) (binds := [("self", .ref e), (f, v)])
    hroom (X _ _ ho) rfl hlim (PySem.W.codeRec_of X hcd) rfl (BindsTo.of_eq (T.nm.bd _ _ _ _ _ _ _ _ _ _ _ _)) ?_ ?_ (fun h₁ hns hk₁ => ?_) rfl rfl rfl
  · intro y hy
    have hy : y ∈ [((PySem.Str.ofString "self" : Str), NameKind.local), (f, .local), (PySem.Str.ofString "__class__", .free), (PySem.Str.ofString "super", .globalImplicit)] := hy
    simp only [List.mem_cons, List.not_mem_nil, or_false] at hy
    rcases hy with rfl | rfl | rfl | rfl <;> (intro z; cases z)
  · intro y hy
    simp only [List.mem_cons, List.not_mem_nil, or_false] at hy
    rcases hy with rfl | rfl
    · exact F.s3
    · exact F.s4
  · have X₁ : K.In h₁ := X.keeps hk₁
    have he₁ := hk₁ _ _ he
    have mself : (([((PySem.Str.ofString "self" : Str), Value.ref e), (f, v)] : List (Str × Value)).reverse.lookup ("self" : Str)) = some (.ref e) := by
      show List.lookup ("self" : Str) [(f, v), (PySem.Str.ofString "self", .ref e)] = some (.ref e)
      have hb : (("self" : Str) == f) = false := by
        have : ¬ ("self" : Str) = f := fun z => F.ne z.symm
        simpa using this
      simp only [List.lookup, hb]
      rfl
    have mf : (([((PySem.Str.ofString "self" : Str), Value.ref e), (f, v)] : List (Str × Value)).reverse.lookup f) = some v := by
      show List.lookup f [(f, v), (PySem.Str.ofString "self", .ref e)] = some v
      simp [List.lookup]
    obtain ⟨oD, hD1, hD2⟩ : ∃ oD, h₁.get? C = some oD ∧ oD.data = .cls { name := nm, bases := bs, mro := .ref C :: bm, ns := N, qualname := q, hasDict := true, slotNames := sn, subclasses := sub, abstract := ab, collection := col, hasDel := false } := ⟨_, X₁ _ _ hC, rfl⟩
    have eC : e ≠ C := exc_ne (X _ _ hC) he
    obtain ⟨mb, hmb, hmbb⟩ := hb
    refine ks_wpAt_execs_cons (ks_wpAt_Expr_any (at_method1 hline rfl ?_))
    refine ks_wpAt_super_base (env := PySem.W.ksEnv qual (eScope f) s.heap.objs.size fI' (.ref cda) cc) F.s1 F.s2 (by decide +kernel) rfl (X₁ _ _ ho) rfl rfl rfl (X₁ _ _ hcode) rfl hvs hfile T.top ?_
    refine PySem.W.ks_loadName_global rfl F.s1 (PySem.Calls.loadGlobal_builtin (env := PySem.W.ksEnv qual (eScope f) s.heap.objs.size fI' (.ref cda) cc) (hg.keeps hk₁) T.nsup (hmb.keeps hk₁) ((hmbb _ (by decide +kernel)).trans (by decide +kernel)) ⟨rfl, ?_⟩)
    refine wpAny_loadName_free rfl F.s2 rfl ⟨_, X₁ _ _ hcell, rfl⟩ ?_
    refine wpAny_loadName_local rfl F.s3 hns mself ?_
    refine ks_wpAny_isType_cls hD1 hD2 ⟨rfl, ?_⟩
    refine ks_wpAny_call_super hD1 hD2 he₁ rfl (fun c z => by cases z) (PySem.W.looks_mroIn X₁ T.mroC) (fun h₂ hso hk₂ => ?_)
    have X₂ : K.In h₂ := X₁.keeps hk₂
    have he₂ := hk₂ _ _ he₁
    refine PySem.W.kxs_getMethod PySem.W.kxs_ValueError hso (PySem.W.looks_opaque X₂ T.op) (l₀ := .ref C :: bm) (fun A Q E s k q => wpAny_bind ((PySem.W.looks_clsIn X₂ hcl) A _ E s k (wpAny_pure q))) (l := bm) ?_ X₂ hal ?_ eC (by decide +kernel) ?_
    · simp [List.dropWhile_cons]
    · exact (PySem.W.InstAt.type (od := none) ⟨he₂, rfl, rfl, trivial⟩).andThen (PySem.W.looks_subIn X₂ T.exV)
    · -- the wrapper stands; the text; the call
      have hu : (h₂.push (PySem.W.kxs_mw "ValueError.__init__" e)).get? h₂.objs.size = some (PySem.W.kxs_mw "ValueError.__init__" e) := Heap.get?_push_at rfl rfl
      have hk₃ : ∀ b o, h₂.get? b = some o → (h₂.push (PySem.W.kxs_mw "ValueError.__init__" e)).get? b = some o := fun b o e => Heap.get?_push_of_some _ e
      have X₃ := X₂.keeps hk₃
      have he₃ := hk₃ _ _ he₂
      have hkAll : ∀ b o, s.heap.get? b = some o → (h₂.push (PySem.W.kxs_mw "ValueError.__init__" e)).get? b = some o := fun b o z => hk₃ _ _ (hk₂ _ _ (hk₁ _ _ z))
      have hn₃ : ∃ m3, (h₂.push (PySem.W.kxs_mw "ValueError.__init__" e)).Ns s.heap.objs.size m3 ∧ m3 ("self" : Str) = some (.ref e) ∧ m3 f = some v := ⟨_, hns.keeps fun b o z => hk₃ _ _ (hk₂ _ _ z), mself, mf⟩
      generalize h₂.push (PySem.W.kxs_mw "ValueError.__init__" e) = h₃ at hu X₃ he₃ hkAll hn₃
      generalize h₂.objs.size = u at hu
      refine PySem.W.kxs_callWith (i := "ValueError.__init__") (x := e) rfl ?_
      refine PySem.Calls.evalArgs_plain ?_
      refine PySem.Calls.spliced_cons (PySem.Calls.Constant_str (k := j) (pos := a4) (PySem.Calls.spliced_nil ⟨hu, ?_⟩))
      show wpAny (model prog w) _ (call (.ref u) [_]) _ _ _
      refine wpAny_call (codeAny_of_tree ?_)
      show wpAny _ _ (callAny (.ref u) ⟨[_], []⟩) _ _ _
      simp only [callAny]
      refine wpAny_bind (wpAny_load hu ?_)
      simp only [PySem.W.kxs_mw, show (Value.type "method-wrapper" == Value.type "method" || Value.type "method-wrapper" == Value.type "builtin_function_or_method" || Value.type "method-wrapper" == Value.type "method-wrapper") = true by decide, if_true]
      refine PySem.W.KFB.if_so (by decide) ?_
      refine wpAny_bind (PySem.W.check_bound_init PySem.F.excBase_ValueError.toExcCallFacts (X₃ _ _ hC) he₃ rfl ?_)
      refine wpAny_bind (wpAny_pure (wpAny_pure ?_))
      refine ⟨plainId_quiet PySem.F.excBase_ValueError.init.plain _, codeAny_builtin PySem.F.excBase_ValueError.initEntry ?_⟩
      refine PySem.W.exc_init_tree (cls := .ref C) (t0 := t0) (dv := none) (c2 := .none) (c3 := .none) (b4 := .bool false) he₃ (by show 1 ≤ sizeLine; rw [sizeLine_eq]; omega) fun h₄ hk₄ he₄ _ => ?_
      -- the second statement
      obtain ⟨m3, hn3, ms, mfv⟩ := hn₃
      have hn₄ : h₄.Ns s.heap.objs.size m3 := by
        obtain ⟨oN, es, ep, hN, r⟩ := hn3
        refine ⟨oN, es, ep, hk₄ _ _ (fun z => ?_) hN, r⟩
        rw [z] at hns
        exact absurd (Heap.lt_size he) (by rw [← z]; exact Nat.lt_irrefl _)
      have X₄ : K.In h₄ := fun b o z => hk₄ b o (fun y => by rw [y, hne] at z; cases z) (X₃ b o z)
      have le₄ : s.heap.objs.size ≤ h₄.objs.size := Nat.le_of_lt hn₄.lt
      refine PySem.wpAt_of_wpAny (wpAny_execs_cons (plainObj_wpAny_Assign_Attribute ?_ ?_))
      · refine wpAny_Name (wpAny_loadName_local rfl F.s4 hn₄ mfv ?_) F.db
        refine wpAny_Name (wpAny_loadName_local rfl F.s3 hn₄ ms ?_) (by decide)
        refine PySem.W.set_plain X₄ (ox := HandSPX.excO C h₃.objs.size) (od := none) ⟨he₄, rfl, rfl, trivial⟩ T.sa ?_
        refine HandSPX.exc_osa X₄ he₄ hcl (show HandSPX.refsVE (.ref C :: bm) = true from hbm) rfl T.noN (fun h₅ tk₅ dx hk₅ dn dne he₅ hn₅ => ?_)
        refine wpAny_execs_nil (hq h₅ tk₅ dx h₃.objs.size (fun b o hb z => hk₅ b o hb (hk₄ b o hb (hkAll b o z))) he₅ (Nat.le_trans le₄ dn) dne hn₅)
      · rfl
end
end Jud
set_option Elab.async false
set_option linter.all false
set_option maxRecDepth 100000
set_option maxHeartbeats 4000000
/-! Such an exception made, raised; an exception without own __init__ and without arguments; one that is caught and kept as a value. -/
namespace Jud
open PySem PySem.Spec L2 LamX
open PyProof.Rows hiding St wpAt

/-- a made exception with its field -/
structure ErrMade (h h' : Heap) (e C d : Addr) (f : Str) (v : Value) : Prop where
  keep : ∀ b o, h.get? b = some o → h'.get? b = some o
  new : h.objs.size ≤ e
  obj : ∃ oe vs, h'.get? e = some oe ∧ oe.cls = .ref C ∧ oe.dict = some d ∧ oe.data = .fields vs ∧ vs[1]? = some .none
  dbig : h.objs.size ≤ d
  dne : d ≠ e
  ns : h'.Ns1 d (fun y => if y = f then some v else none)
section
variable {prog : Program} {w : World} {A : Around} {E : Value → Shared → Prop} {R : Result → Shared → Prop} {s : Shared} {K : PySem.W.Frag} {mg : Str → Option Value} {C : Addr} {x f : Str}
theorem err_made (T : ErrC prog K mg x f C) {v : Value} (X : K.In s.heap) (hg : s.heap.Ns mainGlobals mg) (hb : ∃ mb, s.heap.Ns builtinsNs mb ∧ ∀ x : Str, x ≠ "__name__" → mb x = bootBuiltins x) (hlim : s.heap.NoLimit) (hroom : A.depth + 1 < recursionLimit)
    (hq : ∀ h' tk e d, ErrMade s.heap h' e C d f v → R (.ok (.ret (.ref e))) { s with heap := h', toks := tk }) :
    codeAny (model prog w) A (.call (.ref C) ⟨[v], []⟩) R s := by
  obtain ⟨nm, q, N, bs, bm, sn, sub, ab, col, dd, k0, k1, k2, k3, k5, hC, hbm, hal⟩ := T.cls
  obtain ⟨fI, hfI, tI, _⟩ := T.init
  obtain ⟨hp, g, dr, tk, os⟩ := s
  have sz1 : [v].length ≤ sizeLine := by show 1 ≤ sizeLine; rw [sizeLine_eq]; omega
  have kp : ∀ b o, hp.get? b = some o → ((hp.push (PySem.W.kdv_tup [v])).push (HandSPX.excO C hp.objs.size)).get? b = some o := fun b o z => Heap.get?_push_of_some _ (Heap.get?_push_of_some _ z)
  have hnew : ((hp.push (PySem.W.kdv_tup [v])).push (HandSPX.excO C hp.objs.size)).get? (hp.objs.size + 1) = some (HandSPX.excO C hp.objs.size) := by heap_get
  have hnx : K.lookup (hp.objs.size + 1) = none := by
    cases z : K.lookup (hp.objs.size + 1) with
    | none => rfl
    | some o => exact absurd (Heap.lt_size (X _ _ z)) (by show ¬ hp.objs.size + 1 < hp.objs.size; omega)
  have nsk : ∀ {b m}, hp.Ns b m → ((hp.push (PySem.W.kdv_tup [v])).push (HandSPX.excO C hp.objs.size)).Ns b m := fun {b m} z => z.keeps kp
  obtain ⟨mb, hmb, hmbb⟩ := hb
  have hsz : ((hp.push (PySem.W.kdv_tup [v])).push (HandSPX.excO C hp.objs.size)).objs.size = hp.objs.size + 1 + 1 := by rw [Heap.size_push, Heap.size_push]
  refine HandSPX.call_own PySem.F.excBase_ValueError (fun Y => HandSPX.refsVE_contains Y bm hbm) (X _ _ hC) (PySem.W.looks_findIn X hfI) (fun self => PySem.W.bind_fn X self tI) sz1 ?_
  refine err_init (s := ⟨(hp.push (PySem.W.kdv_tup [v])).push (HandSPX.excO C hp.objs.size), g, dr, tk, os⟩) T hfI (X.keeps kp) (nsk hg) ⟨mb, nsk hmb, hmbb⟩ (hlim.keeps kp) hnew hnx (fun n m z1 z2 => ?_) ?_ fun h' tk' dx t1 k' he dn dne hns => ?_
  · obtain ⟨o, es, ep, z3, z4, _⟩ := z1
    rw [z2, hnew] at z3
    cases z3
    cases z4
  · show A.depth + 1 < recursionLimit
    exact hroom
  · have old : ∀ b o, hp.get? b = some o → h'.get? b = some o := fun b o z => k' b o (Nat.ne_of_lt (Nat.lt_succ_of_lt (Heap.lt_size z))) (kp b o z)
    have dn' : hp.objs.size ≤ dx := by
      have z : hp.objs.size + 1 + 1 ≤ dx := by rw [← hsz]; exact dn
      omega
    exact ⟨rfl, hq h' tk' (hp.objs.size + 1) dx ⟨old, Nat.le_succ _, ⟨_, _, he, rfl, rfl, rfl, rfl⟩, dn', dne, hns⟩⟩
end
section
variable {X : Cx} {C : Addr} {x f : Str}
theorem relO_fld {v : V} {v' : Value} (r : RelV v v') (f g : Str) : RelO (List.lookup g [(f, v)]) (if g = f then some v' else none) := by
  by_cases h : g = f
  · subst h
    rw [if_pos rfl]
    have q : List.lookup g [(g, v)] = some v := by simp [List.lookup]
    rw [q]
    exact r
  · rw [if_neg h]
    have hb : (g == f) = false := by simpa using h
    have q : List.lookup g [(f, v)] = none := by simp [List.lookup, hb]
    rw [q]
    trivial
/-- x(e) -/
def tMkErr (C : Addr) (f : Str) (ta : TA) : St → Hp → XK → Prop := fun σ H Q => ta σ H fun vs H1 => ∃ v, vs = [v] ∧ ∀ d, H1 d = none → Q (.ref C) (some d) (upd H1 d (.xd [(f, v)]))
theorem pmk_err {a : Expr} {ta : TA} {p pos : Pos} {k : Nat} (T : ErrC X.prog X.K X.mg x f C) (hr : Room k X.A) (ha : PA X [a] ta) (hg : Gl X x := by rfl) (hdb : (x == ("__debug__" : Str)) = false := by decide)
    (he : starEach (a :: []) X.env = (false, eval a X.env) :: starEach [] X.env := by rfl) (hpl : (backTo pos (starEach [] X.env)).any (·.1) = false := by rfl) :
    PMk X (.Call (.Name x p) [a] [] pos) (tMkErr C f ta) := by
  intro pins s σ H Q I h
  refine wpAny_Call_Name_kw (ld_glob I hg T.gC ?_ hdb)
  refine PySem.W.callWith_K (h₀ := X.base) I.ok.mod.kin T.kC (thn (ha.run pos pins s σ H _ I h) fun us s1 hh => ?_) he hpl
  obtain ⟨vs, H1, I1, r1, v, ev, q1⟩ := hh
  subst ev
  refine ⟨I1.kIn, ?_⟩
  cases r1 with
  | cons rv rn =>
    rename_i v' us'
    cases rn
    show wpAny _ _ (call (.ref C) [v']) _ _ _
    have hlim := I1.nolimit
    have hgl := I1.mod.glob.keeps I1.bk
    have hbl : ∃ mb, s1.heap.Ns builtinsNs mb ∧ ∀ y : Str, y ≠ "__name__" → mb y = bootBuiltins y := by
      obtain ⟨mb, z1, z2⟩ := I1.mod.blt
      exact ⟨mb, z1.keeps I1.bk, z2⟩
    obtain ⟨hp, g, dr, tk, os⟩ := s1
    refine wpAny_call (err_made T I1.kIn hgl hbl hlim (by have := hr.dp; omega) fun h' tk' e d M => ?_)
    obtain ⟨oe, fv, hoe, hc, hd, hdat, h1⟩ := M.obj
    have hns := M.ns
    obtain ⟨G', g1, g2⟩ := restrict h' fun b => decide (b ≠ e)
    have gk : ∀ b, b ≠ e → G'.get? b = h'.get? b := fun b hb => g1 b (decide_eq_true hb)
    have ge : G'.get? e = none := g2 e (by simp)
    have old : ∀ b o, hp.get? b = some o → G'.get? b = some o := fun b o z => (gk b (Nat.ne_of_lt (Nat.lt_of_lt_of_le (Heap.lt_size z) M.new))).trans (M.keep b o z)
    have ob : ObjOk X.prog X.w (upd H1 d (.xd [(f, v)])) G' d (.xd [(f, v)]) := ⟨_, hns.at (fun o z => (gk d M.dne).trans z), fun y => relO_fld rv f y⟩
    have J : Inv X pins σ (upd H1 d (.xd [(f, v)])) ⟨G', g, dr, tk', os⟩ := I1.laid (t' := tk') old M.dbig ob
    refine ⟨e, oe, fv, ⟨G', g, dr, tk', os⟩, _, .ref C, some d, rfl, J, fun b o z => ?_, ge, hoe, ⟨hc, hd⟩, hdat, h1, ?_, rfl, I1.bare, raises_own T.exC T.tyC, q1 d (I1.hok.fresh M.dbig)⟩
    · by_cases hb : b = e
      · have z' : G'.get? b = some o := z
        rw [hb, ge] at z'; cases z'
      · exact (gk b hb).symm.trans z
    · rw [upd_ne (Ne.symm M.dne)]
      exact I1.hok.fresh M.new
/-- x(), an own class without __init__ -/
theorem pmk_exc0 {bmB : List Value} {B newId initId : String} {p pos : Pos} (F : ExcBaseFacts B newId initId bmB) (q : PySem.W.excIn X.K C bmB newId = true) (gC : X.mg x = some (.ref C)) (kC : PySem.W.keepIn X.K (.ref C) = true) (r : Raises X (.ref C)) (hg : Gl X x := by rfl)
    (hdb : (x == ("__debug__" : Str)) = false := by decide) : PMk X (.Call (.Name x p) [] [] pos) (fun _ H Q => Q (.ref C) none H) := by
  intro pins s σ H Q I h
  refine wpAny_Call_Name_kw (ld_glob I hg gC ?_ hdb)
  refine PySem.W.callWith_K0 I.kIn kC ?_
  show wpAny _ _ (call (.ref C) []) _ _ _
  obtain ⟨bm, N, nm, qn, bs, hdct, sn, sub, ab, col, dd, k0, k1, k2, k3, k5, mN, hC, hN, hni, T⟩ := exc_obj I.kIn q
  refine wpAny_call_exc_subT F T hC hN hni (fun h' a hm => mk_of I hm r h (I.hok.gone hm.new)) (by show 0 ≤ sizeLine; exact Nat.zero_le _)
end

/-! ### an exception as a value -/
/-- an exception of the class cls at a, its own dict at d -/
def ErrO (cls : Value) (d : Option Addr) (a : Addr) : HO := .ext fun h => ∃ (oe : Obj) (vs : Array Value), h.get? a = some oe ∧ Zc cls d oe ∧ oe.data = .fields vs
theorem errO_ok {P : Program} {w : World} {H : Hp} {h : Heap} {a : Addr} {cls : Value} {d : Option Addr} {oe : Obj} {vs : Array Value} (e : h.get? a = some oe) (z : Zc cls d oe) (hd : oe.data = .fields vs) : ObjOk P w H h a (ErrO cls d a) :=
  ⟨⟨oe, vs, e, z, hd⟩, ⟨oe, e⟩, fun _ _ ⟨o, v, q, r⟩ k => ⟨o, v, k o q, r⟩⟩
section
variable {X : Cx} {pins : List (Addr × Obj)} {σ : St} {H : Hp} {s : Shared}
/-- an object that came behind the entry is tracked from now on -/
theorem Inv.track {a : Addr} {o : HO} (I : Inv X pins σ H s) (ha : H a = none) (n0 : X.s_0.heap.get? a = none) (nL : a ≠ X.env.locals) (nc : ∀ x c, X.env.cells.lookup x = some c → c ≠ a) (np : ∀ p ∈ X.pn ++ pins, p.1 ≠ a) (new : ObjOk X.prog X.w (upd H a o) s.heap a o) :
    Inv X pins σ (upd H a o) s := by
  have ne0 : ∀ b u, X.s_0.heap.get? b = some u → b ≠ a := fun b u e z => by rw [z, n0] at e; cases e
  refine ⟨I.ok, I.os, I.bare, ⟨I.base.keep, I.base.slot, fun b u e n hx => ?_, I.base.there, fun b xs e => ?_, fun b ob u e => ?_, fun b ps e => ?_⟩, I.loc, I.cell, ?_, fun x c e => ?_, fun p hp => ?_, fun b u e => ?_, I.len⟩
  · rw [upd_ne (ne0 b u e)]
    exact I.base.free b u e n hx
  · have z := I.base.tups b xs e
    rw [upd_ne (ne_of_none z ha)]
    exact z
  · have z := I.base.frzs b ob u e
    rw [upd_ne (ne_of_none z ha)]
    exact z
  · obtain ⟨m, z⟩ := I.base.tbls b ps e
    exact ⟨m, by rw [upd_ne (ne_of_none z ha)]; exact z⟩
  · rw [upd_ne (Ne.symm nL)]
    exact I.free
  · rw [upd_ne (nc x c e)]
    exact I.freeC x c e
  · obtain ⟨h1, h2, h3, h4, h5⟩ := I.pin p hp
    exact ⟨h1, by rw [upd_ne (np p hp)]; exact h2, h3, h4, h5⟩
  · by_cases hb : b = a
    · subst hb
      rw [upd_same] at e
      cases e
      exact new
    · rw [upd_ne hb] at e
      exact (I.hok b u e).stay (fun _ _ _ q => q) (fun c q => by rw [upd_ne (ne_of_none q ha)]; exact q) fun c xs q => by rw [upd_ne (ne_of_none q ha)]; exact q
end
end Jud
set_option Elab.async false
set_option linter.all false
set_option maxRecDepth 100000
set_option maxHeartbeats 4000000
/-! try: .. except X as n: .., the exception tracked as a value from the suite on; isinstance and a field of such a value. -/
namespace Jud
open PySem PySem.Spec L2 LamX
open PyProof.Rows hiding St wpAt

/-- what 'except x as n' wishes, the exception a value -/
def wKeep (K : PySem.W.Frag) (c : Value) (i : Nat) (ts : Addr → Value → Option Addr → TS) (Wout : WX) (D : Ends) : WX := fun cls d σ H =>
  ∃ b, PySem.W.exmOne K cls c = some b ∧ (b = true → ∀ a, H a = none → ts a cls d { nx := fun σ' H' => D.nx (σ'.set i none) H', rt := D.rt, bk := fun σ' H' => D.bk (σ'.set i none) H', ct := fun σ' H' => D.ct (σ'.set i none) H' } (σ.set i (some (.ref a))) (upd H a (ErrO cls d a))) ∧
    (b = false → Wout cls d σ H)
section
variable {X : Cx} {pins : List (Addr × Obj)} {σ : St} {H : Hp} {s : Shared}
theorem Inv.suite0 (I : Inv X pins σ H s) (a : Addr) : Inv (X.suite a (X.pn ++ pins)) [] σ H s :=
  ⟨I.ok.suite _ _, I.os, I.bare, I.base, I.loc, I.cell, I.free, I.freeC, fun p hp => I.pin p (by rw [List.append_nil] at hp; exact hp), I.hok, I.len⟩
theorem Inv.unsuite0 {a : Addr} {pn' : List (Addr × Obj)} (I : Inv (X.suite a (X.pn ++ pins)) pn' σ H s) (ok : X.Ok) : Inv X pins σ H s :=
  ⟨ok, I.os, I.bare, I.base, I.loc, I.cell, I.free, I.freeC, fun p hp => I.pin p (List.mem_append_left _ hp), I.hok, I.len⟩
end
section
variable {X : Cx} {x n : Str} {c : Value} {i : Nat} {body suite : List Stmt} {b₀ : Stmt} {np pos pos' : Pos} {tb : WX → TS} {ts : Addr → Value → Option Addr → TS} {Wout : WX}
theorem ps_try_keep (hs : X.stack = X.env :: X.outer) (hf : X.env.frame = some X.env.locals) (hex : X.ex = []) (hN : X.N.Nodup) (hi : X.N[i]? = some n) (hln : X.env.kindOf n = some .local) (hc : Names X x c) (tk : Takes X Wout)
    (hb : ∀ (W : WX) (pn : List (Addr × Obj)) (xe : Value → Shared → Prop), Takes (X.tr pn xe) W → PassesOwn (model X.prog X.w) X.A X.env xe → PSs (X.tr pn xe) body (tb W))
    (hsu : ∀ (a : Addr) (cls : Value) (d : Option Addr) (pn : List (Addr × Obj)), PSs (X.suite a pn) (b₀ :: suite) (ts a cls d)) :
    PS X (.Try body [.ExceptHandler (some (.Name x np)) (some n) (b₀ :: suite) pos'] [] [] pos) (fun D σ H => tb (wKeep X.K c i ts Wout D) D σ H) := by
  refine ⟨fun pins s σ H D I h => ?_⟩
  have ok := I.ok
  have hfr : X.A.frames = some (X.env :: X.outer) := by rw [ok.frames, hs]
  have hloc : Loc X.env.scope n := .inl hln
  refine wpAny_Try_except ?_
  refine wpAny_mono ((hb (wKeep X.K c i ts Wout D) (X.pn ++ pins) (fun e s₁ => wpAny (model X.prog X.w) X.A (noteFrame e X.env) (fun _ s₂ => wpAny (model X.prog X.w) X.A (setFlight e none) (fun _ s₃ =>
    wpAny (model X.prog X.w) X.A (handleBy e X.env [.ExceptHandler (some (.Name x np)) (some n) (b₀ :: suite) pos']) (SP X pins D) X.xe s₃) X.xe s₂) X.xe s₁) (fun u s' xx => ?_) PassesOwn.looking).run [] s σ H D (I.toTry _) h) (fun f s1 hsp => ?_) (fun e s1 he => he)
  · obtain ⟨a, B, sI, pins', σ', H', cls, d, rfl, J', nb, up, sky, na, os, ag, b, hb1, hyes, hno⟩ := xx
    have J : Inv X pins σ' H' sI := J'.ofTry ok
    have sky' : Sky B (X.env :: X.outer) a (Zc cls d) X.env.locals s'.heap := by rw [← hs]; exact sky
    show wpAny (model X.prog X.w) X.A (noteFrame (.ref a) X.env) _ _ _
    refine Sky.land Zc.steady hfr hf sky' fun h3 fl3 up3 => ?_
    have J3 : Inv X pins σ' H' { s' with heap := h3 } := J.landed nb fl3.1 (up.trans up3) os ag
    obtain ⟨oe3, vs3, he3, hz3, hd3⟩ := fl3.there
    have nfr : a ∉ frs (X.env :: X.outer) := fun hm => by
      obtain ⟨_, o', e', hnf⟩ := fl3.2.2.1.mem hm
      rw [he3] at e'; cases e'
      exact hnf _ hd3
    have nfr' : a ∉ frs X.stack := by rw [hs]; exact nfr
    have nL : a ≠ X.env.locals := fun z => nfr (List.mem_filterMap.mpr ⟨X.env, List.mem_cons_self, by rw [hf, z]⟩)
    have nB : B.get? a = none := fl3.2.1
    have nI : sI.heap.get? a = none := by
      cases z : sI.heap.get? a with
      | none => rfl
      | some o => rw [nb a o z nfr'] at nB; cases nB
    have n0 : X.s_0.heap.get? a = none := by
      cases z : X.s_0.heap.get? a with
      | none => rfl
      | some o =>
        obtain ⟨o', z'⟩ := J.base.there a o z (by rw [hex]; exact fun q => nomatch q)
        rw [nI] at z'; cases z'
    have S3 := Inv.suite0 J3 a
    refine wpAny_handleBy_cons (codeAny_handlers_test ?_) (by intro q; cases q)
    have LT : PySem.W.Looks (model X.prog X.w) h3 (typeOf (.ref a)) cls := fun A Q E s k q => wpAny_typeOf_ref (k _ _ he3) (by rw [hz3.1]; exact q)
    have LM := PySem.W.exm_one (M := model X.prog X.w) (J3.kIn) LT hb1
    have test : ∀ {Q : Value → Shared → Prop} {E : Value → Shared → Prop}, Q c { s' with heap := h3 } → wpAny (model X.prog X.w) (X.A.mark (some (.ref a))) (eval (.Name x np) X.env) Q E { s' with heap := h3 } := fun {Q E} q => by
      obtain ⟨hg, hdbg, hm | ⟨hm, hv, hnn⟩⟩ := hc
      · exact ld_glob (X := X.suite a (X.pn ++ pins)) S3 hg hm q hdbg
      · exact ld_blt (X := X.suite a (X.pn ++ pins)) S3 hg hm hv q hnn hdbg
    refine test (LM.here ?_)
    cases b with
    | true =>
      refine codeAny_handlers_suite_as ?_
      refine HandSPX.lands_againZ fl3 fun h4 fl4 up4 => ?_
      have J4 : Inv X pins σ' H' { s' with heap := h4 } := J.landed nb fl4.1 ((up.trans up3).trans up4) os ag
      obtain ⟨oe4, vs4, he4, hz4, hd4⟩ := fl4.there
      have J5 : Inv X pins σ' (upd H' a (ErrO cls d a)) { s' with heap := h4 } := Inv.track J4 na n0 nL (fun y cc e z => by
          obtain ⟨v, o, ho, hd⟩ := J4.cell y cc e
          rw [z] at ho
          have ho : h4.get? a = some o := ho
          rw [he4] at ho; cases ho
          rw [hd4] at hd; cases hd) (fun p hp z => by
          have q := (J.pin p hp).1
          rw [z, nI] at q; cases q) (errO_ok he4 hz4 hd4)
      have S4 := Inv.suite0 J5 a
      refine store_ok (X := X.suite a (X.pn ++ pins)) (v := .ref a) S4 hN hi hloc rfl (fun s5 S5 => ?_) (.inr hln)
      refine wpAny_mono ((hsu a cls d (X.pn ++ pins)).run [] s5 _ _ _ S5 (hyes rfl a na)) (fun f s6 hsp => ?_) (fun _ _ z => False.elim z)
      have end_ : ∀ {σ6 : St} {H6 : Hp} {Q : Shared → Prop}, Inv (X.suite a (X.pn ++ pins)) [] σ6 H6 s6 → (∀ s7, Inv X pins (σ6.set i none) H6 s7 → Q s7) →
          wpAny (model X.prog X.w) X.A (do bindName X.env n .none; unbindBehindTheSuite X.env n pos') (fun _ s7 => Q s7) X.xe s6 := fun {σ6 H6 Q} S6 hq => gone_ok (Inv.unsuite0 S6 ok) hN hi hln hq
      cases f with
      | next =>
        obtain ⟨σ6, H6, S6, q6⟩ := hsp
        exact end_ S6 fun s7 J7 => ⟨_, _, J7, q6⟩
      | brk =>
        obtain ⟨σ6, H6, S6, q6⟩ := hsp
        exact end_ S6 fun s7 J7 => ⟨_, _, J7, q6⟩
      | cont =>
        obtain ⟨σ6, H6, S6, q6⟩ := hsp
        exact end_ S6 fun s7 J7 => ⟨_, _, J7, q6⟩
      | ret u =>
        obtain ⟨v6, σ6, H6, S6, r6, q6⟩ := hsp
        exact end_ S6 fun s7 J7 => ⟨_, _, _, J7, r6, q6⟩
    | false =>
      show wpAny _ X.A (handleBy (.ref a) X.env []) _ _ _
      refine wpAny_handleBy_nil ?_
      obtain ⟨k1, k2, k3, oe, vs, T, oT, ts', he, hz, hd, h1, hr⟩ := id fl3
      unfold PySem.passOn
      refine wpAny_bind (wpAny_field he hd h1 ?_)
      rw [if_neg (show ¬ ((Value.ref T == Value.none) = true) from by simp)]
      have fin : wpAny (model X.prog X.w) X.A (setFlight (.ref a) X.env.frame) (fun _ s4 => wpAny (model X.prog X.w) X.A (throw (.ref a) : Sem Flow) (SP X pins D) X.xe s4) X.xe { s' with heap := h3 } := by
        rw [hf]
        refine HandSPX.setFlight_upZ fl3 fun h4 hh4 up4 => wpAny_throw (tk _ _ ?_)
        exact ⟨a, B, sI, pins, σ', H', cls, d, rfl, J, nb, (up.trans up3).trans up4, .inr (.inr (by rw [hs]; exact hh4)), na, os, ag, hno rfl⟩
      first
        | exact wpAny_bind (wpAny_pure (wpAny_bind fin))
        | exact wpAny_bind fin
  · cases f with
    | next =>
      obtain ⟨σ', H', J', q⟩ := hsp
      exact wpAny_execs_nil ⟨σ', H', J'.ofTry ok, q⟩
    | brk =>
      obtain ⟨σ', H', J', q⟩ := hsp
      exact ⟨σ', H', J'.ofTry ok, q⟩
    | cont =>
      obtain ⟨σ', H', J', q⟩ := hsp
      exact ⟨σ', H', J'.ofTry ok, q⟩
    | ret u =>
      obtain ⟨v, σ', H', J', r, q⟩ := hsp
      exact ⟨v, σ', H', J'.ofTry ok, r, q⟩
end

/-! ### isinstance and a field of an exception that is a value -/
section
open PySem.W
variable {prog : Program} {w : World} {A : Around} {E : Value → Shared → Prop} {s : Shared} {K : Frag} {x D : Addr} {ox : Obj} {od : Option Obj}
theorem found_data {C : Addr} {name : Str} {a g : Value} (hc : (clsIn K C).isSome = true) (ha : findIn K (.ref C) name = some (some a)) (hg : specialIn K a "__get__" = some (some g)) (ht : takesIn K a = some true) : findObj K C od name = some (.bind g a) := by
  obtain ⟨cd, hc⟩ := Option.isSome_iff_exists.mp hc
  unfold findObj
  rw [hc, Option.bind_some, ha, Option.bind_some]
  simp [hg, ht]
theorem cls_some (h : hasDictIn K D = true) : (clsIn K D).isSome = true := by
  obtain ⟨cd, hc, _⟩ := any_some h
  rw [hc]
  rfl
/-- the class of such an exception, asked as isinstance asks it -/
theorem exc_class {Q : Option Value → Shared → Prop} (T : ExcC K D) (X : K.In s.heap) (I : PySem.W.InstAt s.heap x ox D od) (h : Q (some (.ref D)) { s with toks := s.toks + 1 }) : wpAny (model prog w) A (getAttr? (.ref x) "__class__") Q E s := by
  obtain ⟨hp, g, d, t, os⟩ := s
  have L0 := I.type (M := model prog w)
  have L1 := looks_findIn (M := model prog w) X T.hg
  have L2 := looks_findIn (M := model prog w) X T.hk
  have L3 := looks_find (M := model prog w) X I (found_data (cls_some T.hd) T.ha T.hn T.ht)
  have sub : Looks (model prog w) hp (isInstance (.ref x) (.type "BaseException")) true := L0.andThen (looks_subIn X T.hs)
  have n0 : (false && onTheHeap (Value.builtin "BaseException.__getattribute__")) = false := rfl
  have n2 : (Value.builtin "BaseException.__getattribute__" == Value.builtin "object.__getattribute__") = false := by decide +kernel
  have n1 : (onTheHeap (Value.ref D) && Value.builtin "BaseException.__getattribute__" == Value.builtin "object.__getattribute__") = false := by rw [n2]; rfl
  unfold getAttr? getAttrBy? getAttrBy
  refine wpAny_bind (wpAny_mkText (wpAny_bind (wpAny_attempt (wpAny_holding (wpAny_bind (L0.at (wpAny_bind (L1.at ?_))))))))
  show wpAny _ _ (if (onTheHeap (Value.ref D) && Value.builtin "BaseException.__getattribute__" == Value.builtin "object.__getattribute__") = true then _ else _) _ _ _
  rw [n1, if_neg Bool.false_ne_true]
  unfold getAttrByItsOwn hookBefore
  refine wpAny_bind ?_
  rw [if_pos (show onTheHeap (Value.ref D) = true from rfl)]
  refine L2.at (wpAny_bind (wpAny_attempt (wpAny_holding ?_)))
  unfold callGetattribute
  rw [n0, if_neg Bool.false_ne_true]
  unfold boundAndCalled
  rw [PySem.F.excAttr_ValueError.ga.bind (.ref x)]
  refine wpAny_bind (wpAny_pure ?_)
  show wpAny _ _ (call (.builtin "BaseException.__getattribute__") [.ref x, .str "__class__" t]) _ _ _
  refine wpAny_call (codeAny_call_builtin PySem.F.excAttr_ValueError.ga.plain PySem.F.entry_bexc_ga ?_)
  refine @check_slot (model prog w) _ _ ⟨hp, g, d, t + 1, os⟩ "BaseException.__getattribute__" "BaseException" "__getattribute__" (.ref x) [.str "__class__" t] [] _ (by decide +kernel) (by decide +kernel) sub (PySem.F.args_bexc_ga (.ref x) (.str "__class__" t)) ?_
  unfold Builtin.«object.__getattribute__»
  refine wpAny_bind (wpAny_of_eq (a := ((Value.ref x : Value), [Value.str "__class__" t])) (by first | rfl | (simp only [slotArgs]; rfl)) ?_)
  refine wpAny_bind (wpAny_pure (wpAny_bind (L0.at (wpAny_bind (L3.at ?_)))))
  show wpAny _ _ (holding [Value.builtin "object.__class__"] (call (.builtin "getset_descriptor.__get__") [.builtin "object.__class__", .ref x, .ref D]) >>= ret) _ _ _
  refine wpAny_bind (wpAny_holding (wpAny_call (class_get (s := ⟨hp, g, d, t + 1, os⟩) (ox := ox) (od := od) X I T.hm ?_)))
  refine wpAny_pure ?_
  show wpAny _ _ (handedOut (.ref D)) _ _ _
  rw [handedOut_of (v := .ref D) rfl]
  first
    | exact wpAny_pure (wpAny_pure h)
    | exact wpAny_pure h
    | exact wpAny_pure (wpAny_bind (wpAny_pure (wpAny_pure h)))
theorem cls_obj (h : hasDictIn K D = true) : ∃ o cd, K.lookup D = some o ∧ o.data = .cls cd := by
  obtain ⟨cdD, hcD, _⟩ := any_some h
  unfold clsIn at hcD
  split at hcD
  · rename_i c' d' cd' sl' ho
    exact ⟨_, _, ho, rfl⟩
  · cases hcD
theorem kit_err (T : ExcC K D) : KitX K (.ref x) (.ref D) (fun h => PySem.W.InstAt h x ox D od) where
  ty := fun _ _ _ I => I.type
  it := fun _ _ X _ => by
    obtain ⟨o, cd, ho, hd⟩ := cls_obj T.hd
    intro A' Q' E' s' k q
    unfold isType loadHead
    refine wpAny_bind (wpAny_loadPart (k _ _ (X _ _ ho)) ?_)
    rw [hd]
    exact wpAny_pure q
  ne := fun h tp dd its n sl X htp => by
    obtain ⟨o, cd, ho, hd⟩ := cls_obj T.hd
    refine Bool.eq_false_iff.mpr fun q => ?_
    have e : D = tp := Value.ref.inj (beq_iff_eq.mp q)
    subst e
    have z := (X _ _ ho).symm.trans htp
    cases z
    cases hd
  ca := fun X I k => exc_class T X I k
end
section
variable {X : Cx} {pins : List (Addr × Obj)} {σ : St} {H : Hp} {s : Shared}
/-- the own dict of an exception, as it is tracked -/
def ErrD (H : Hp) (d : Option Addr) : Prop := d = none ∨ ∃ dd fs, d = some dd ∧ H dd = some (.xd fs)
theorem err_inst {a D : Addr} {d : Option Addr} (I : Inv X pins σ H s) (h : H a = some (ErrO (.ref D) d a)) (hd : ErrD H d) : ∃ ox od, PySem.W.InstAt s.heap a ox D od ∧ (∀ dd mA, d = some dd → s.heap.Ns1 dd mA → ∃ o, od = some o ∧ ∀ name, PySem.W.lookIn name o = some (mA name)) := by
  obtain ⟨⟨oe, vs, he, hz, hv⟩, _, _⟩ := I.hok a _ h
  obtain ⟨oc, ood, oda, osl⟩ := oe
  obtain ⟨h1, h2⟩ := hz
  dsimp only at h1 h2 hv
  subst h1 h2 hv
  rcases hd with rfl | ⟨dd, fs, rfl, hx⟩
  · exact ⟨_, none, ⟨he, rfl, rfl, trivial⟩, fun dd mA z => nomatch z⟩
  · obtain ⟨mA, hns, hr⟩ := I.hok dd _ hx
    obtain ⟨o, ho, hl⟩ := lookIn_ns hns
    refine ⟨_, some o, ⟨he, rfl, rfl, ho⟩, fun dd2 mB z hns2 => ⟨o, rfl, fun name => ?_⟩⟩
    cases z
    obtain ⟨o2, ho2, hl2⟩ := lookIn_ns hns2
    rw [ho] at ho2
    cases ho2
    exact hl2 name
/-- isinstance(e, c), e such an exception -/
def rIsErr (K : PySem.W.Frag) : List V → Hp → VK → Prop := fun xs H Q => ∃ (a D : Addr) (d : Option Addr) (c : V) (cv : Value) (b : Bool), xs = [.ref a, c] ∧ H a = some (ErrO (.ref D) d a) ∧ ErrD H d ∧ ExcC K D ∧ ClsV c cv ∧ PySem.W.kitOne K (.ref D) cv = some b ∧ Q (.bl b) H
theorem call_isErr : CallR X (.builtin "isinstance") (rIsErr X.K) := by
  intro pins s σ H xs us Q I r h
  obtain ⟨a, D, d, c, cv, b, rfl, ha, hd, T, hc, e, q⟩ := h
  cases r with
  | cons rx rr =>
    cases rr with
    | cons rt rr =>
      cases rr
      cases rx
      have ec := hc.eq rt
      subst ec
      obtain ⟨ox, od, J, _⟩ := err_inst I ha hd
      exact PySem.W.kia_one (kit_err T) I.kIn J e (fun z => nomatch z) fun tk => ⟨.bl b, H, I.kept (t' := tk) fun _ _ z => z, rfl, q⟩
/-- isinstance(x, c): any value, or such an exception -/
theorem call_isi2 : CallR X (.builtin "isinstance") (fun xs H Q => rIsi X.K xs H Q ∨ rIsErr X.K xs H Q) := by
  intro pins s σ H xs us Q I r h
  rcases h with h | h
  · exact call_isi pins s σ H xs us Q I r h
  · exact call_isErr pins s σ H xs us Q I r h
/-- e.f, e such an exception -/
def tErrF (K : PySem.W.Frag) (f : Str) (te : TE) : TE := fun σ H Q => te σ H fun x H1 => ∃ (a C dd : Addr) (fs : List (Str × V)) (v : V), x = .ref a ∧ H1 a = some (ErrO (.ref C) (some dd) a) ∧ H1 dd = some (.xd fs) ∧ XfC K C ∧ PySem.W.findIn K (.ref C) f = some none ∧ fs.lookup f = some v ∧ Q v H1
theorem pe_errf {e : Expr} {te : TE} {pos : Pos} {f : Str} (he : PE X e te) (hb : attributeBase e f X.env (eval e X.env) = eval e X.env := by rfl) : PE X (.Attribute e f pos) (tErrF X.K f te) := by
  refine ⟨fun pins s σ H Q I h => ?_⟩
  refine attr_of hb (thn (he.run pins s σ H _ I h) fun u s1 hh => ?_)
  obtain ⟨x, H1, I1, rx, a, C, dd, fs, v, ex, ha, hx, T, hno, hl, q⟩ := hh
  subst ex
  obtain rfl : u = Value.ref a := rx
  obtain ⟨mA, hns, hr⟩ := I1.hok dd _ hx
  obtain ⟨ox, od, J, hod⟩ := err_inst I1 ha (.inr ⟨dd, fs, rfl, hx⟩)
  obtain ⟨o, rfl, hlk⟩ := hod dd mA rfl hns
  obtain ⟨u, hu, ru⟩ := RelO.some_of (v := v) (o := mA f) (by rw [← hl]; exact hr f)
  exact HandSPX.exc_get I1.kIn J T.ga T.gg T.exC (PySem.W.findObj_own T.hdC hno rfl (by rw [hlk, hu])) (handed_of ru) ⟨v, H1, I1.tok _, ru, q⟩
end
end Jud
set_option Elab.async false
set_option linter.all false
set_option maxRecDepth 100000
set_option maxHeartbeats 4000000
/-! A def of the text by its body; keyword calls; repr of data. -/
namespace Jud
open PySem PySem.Spec L2 LamX
open PyProof.Rows hiding St wpAt

/-- the def x of the text (the statement st), as the top has laid it at f; cdv its code object -/
structure At (K : PySem.W.Frag) (mg : Str → Option Value) (x : Str) (st : Stmt) (f : Addr) (cdv : Value) : Prop where
  gl : mg x = some (.ref f)
  ex : ∃ (oc : Value) (od : Option Addr) (kV doc pm : Value) (an : Option Addr) (ct : Value) (osl : Array (Option Value)),
    K.lookup f = some ⟨oc, od, .func (PySem.W.fnOf x x (defArgs st) (defBody st) (defScope st) .none kV doc pm an cdv ct), osl⟩
  cd : PySem.W.codeIn K cdv x = true
  kp : PySem.W.keepIn K (.ref f) = true
def HasDef (K : PySem.W.Frag) (mg : Str → Option Value) (x : Str) (st : Stmt) : Prop := ∃ f cdv, At K mg x st f cdv
/-- how the arguments bind: every parameter by its place -/
def BindsBy (x : Str) (st : Stmt) (ps : List Str) : Prop :=
  ∀ (kV doc pm : Value) (an : Option Addr) (cdv ct : Value) (us : List Value), us.length = ps.length → bindArgs (PySem.W.fnOf x x (defArgs st) (defBody st) (defScope st) .none kV doc pm an cdv ct) ⟨us, []⟩ = pure (ps.zip us)
section
variable {P : Program} {w : World} {K : PySem.W.Frag} {mg : Str → Option Value} {base : Heap}
/-- THE RULE for a def of the text -/
theorem Def.of {x : Str} {st : Stmt} {N ps : List Str} {k : Nat} {sp : Sp} (T : HasDef K mg x st) (hb : BindsBy x st ps) (S : FnScope N ps (defScope st)) (len : ∀ vs H Q E, sp vs H Q E → vs.length = ps.length)
    (hbody : ∀ (f : Addr) (cdv : Value) (A : Around) (outer : List Env) (s : Shared) (H : Hp) (vs : List V) (Q : VK) (E : XK), At K mg x st f cdv → Rm k (A.deeper (envOfC x (defScope st) s.heap.objs.size f cdv)) → sp vs H Q E →
      ∃ t, PSs (cxOf (L2.CX P w) P w K mg base N x (defScope st) f cdv A outer s H E) (defBody st) t ∧ t { nx := fun _ H' => Q .non H', rt := Q } (start N vs) H) : Def P w K mg base (k + 1) x ps sp := by
  obtain ⟨f, cdv, T⟩ := T
  obtain ⟨oc, od, kV, doc, pm, an, ct, osl, lk⟩ := T.ex
  refine ⟨f, T.gl, T.kp, _, ⟨_, lk, rfl⟩, Binds.all (hb kV doc pm an cdv ct), len, fun A outer s H args us vs Q E hr e0 hbd hv h => ?_⟩
  exact run_ofS lk T.cd S hr.room e0 hbd hv (len vs H Q E h) fun hr' => hbody f cdv A outer s H vs Q E T ⟨hr', hr.gd⟩ h
end
section
variable {X : Cx} {k : Nat} {ps ks : List Str} {sp : Sp} {E : XK} {x : Str} {st : Stmt} {p pos : Pos} {kws : List Keyword} {tk : TA} {g : List Value → List Value} {gV : List V → List V}
def tDefK (sp : Sp) (gV : List V → List V) (E : XK) (tk : TA) : TE := fun σ H Q => tk σ H fun zs H1 => sp (gV zs) H1 Q E
/-- x(k = v, ..), keywords alone -/
theorem pe_defK (D : Def X.prog X.w X.K X.mg X.base k x ps sp) (T : HasDef X.K X.mg x st) (hr : Rm k X.A) (hx : Passes (L2.CX X.prog X.w) X E)
    (hb : ∀ (kV doc pm : Value) (an : Option Addr) (cdv ct : Value) (ws : List Value), ws.length = ks.length → bindArgs (PySem.W.fnOf x x (defArgs st) (defBody st) (defScope st) .none kV doc pm an cdv ct) ⟨[], ks.zip ws⟩ = pure (ps.zip (g ws)))
    (rel : ∀ zs ws, Vals zs ws → Vals (gV zs) (g ws)) (hlk : ∀ zs : List V, (gV zs).length = ps.length → zs.length = ks.length) (hkw : PK X kws tk) (hg : Gl X x := by rfl)
    (hall : (backToKw pos (keywordEach kws X.env)).all (·.1.isSome) = true := by rfl) (hks : (backToKw pos (keywordEach kws X.env)).filterMap (·.1) = ks := by rfl) (hdb : (x == ("__debug__" : Str)) = false := by decide)
    (hpl : ((backTo pos (starEach [] X.env)).any (·.1) || (backToKw pos (keywordEach kws X.env)).any (·.1.isNone)) = false := by rfl) :
    PE X (.Call (.Name x p) [] kws pos) (tDefK sp gV E tk) := by
  obtain ⟨f, hm, hk, fd, ⟨o, ho, hd⟩, _, F⟩ := D.ex
  obtain ⟨f', cdv, T⟩ := T
  obtain ⟨oc, od, kV, doc, pm, an, ct, osl, lk⟩ := T.ex
  have e1 : f = f' := by
    have := hm.symm.trans T.gl
    cases this
    rfl
  subst e1
  rw [lk] at ho
  cases ho
  cases hd
  refine ⟨fun pins s σ H Q I h => ?_⟩
  refine wpAny_Call_Name_kw (ld_glob I hg hm ?_ hdb)
  refine PySem.W.callWith_KW0 (h₀ := X.base) I.ok.mod.kin hk hall ?_ hpl
  refine thn (hkw.run pos pins s σ H _ I h) fun ws s2 ⟨zs, H2, I2, rz, q⟩ => ⟨I2.kIn, ?_⟩
  rw [hks]
  have hl := F.len _ _ _ _ q
  have r2 := rel zs ws rz
  have hb2 := hb kV doc pm an cdv ct ws (by rw [← rz.length]; exact hlk zs hl)
  show wpAny _ _ (call (.ref f) [] (ks.zip ws)) _ _ _
  refine wpAny_call (codeAny_mono (F.run X.A X.stack s2 H2 ⟨[], ks.zip ws⟩ (g ws) (gV zs) Q E hr I2.env0 (BindsTo.of_eq hb2) r2 q) fun r s3 hq => ?_)
  cases r with
  | error e => exact hx pins σ H2 s2 e s3 I2 hq
  | ok fl =>
    cases fl with
    | ret u => exact I2.after hq
    | next => exact False.elim hq
    | brk => exact False.elim hq
    | cont => exact False.elim hq
end
section
variable {X : Cx}
/-- repr of data -/
def rRepr (K : PySem.W.Frag) : List V → Hp → VK → Prop := fun xs H Q => ∃ (x : V) (d : PyData), xs = [x] ∧ Dp K H x d ∧ d.showable = true ∧ d.hasDict = false ∧ d.depth ≤ 40 ∧ d.shown.length ≤ sizeLine ∧ Q (.str d.shown) H
theorem call_repr (hg : X.A.guards = some []) (hu : X.A.units + 64 < cLine) : CallR X (.builtin "repr") (rRepr X.K) := by
  intro pins s σ H xs us Q I r h
  obtain ⟨x, d, rfl, hd, h1, h2, h3, h4, q⟩ := h
  cases r with
  | cons rx rr =>
    cases rr
    cases hd with
    | non =>
      cases rx
      exact PySem.P.repr_of_none ⟨.str _, H, I.tok _, ⟨_, rfl⟩, q⟩
    | bl b =>
      cases rx
      exact PySem.P.repr_of_bool ⟨.str _, H, I.tok _, ⟨_, rfl⟩, q⟩
    | int i =>
      obtain ⟨t, rfl⟩ := rx
      exact PySem.P.repr_of_int (of_decide_eq_true h1) ⟨.str _, H, I.tok _, ⟨_, rfl⟩, q⟩
    | str x =>
      obtain ⟨t, rfl⟩ := rx
      exact PySem.P.repr_of_str ⟨.str _, H, I.tok _, ⟨_, rfl⟩, q⟩ h4
    | lst ha hds =>
      cases rx
      obtain ⟨as, R⟩ := Dp.reads I _ _ _ (Dp.lst ha hds) rfl
      exact repr_of_reads' R h1 (PyData.noDict_hsm h2) hg (by omega) (fun _ _ z => z) (fun h' t tk hk => ⟨.str _, H, I.kept (t' := tk) hk, ⟨_, rfl⟩, q⟩) h4
    | tup ha hds =>
      cases rx
      obtain ⟨as, R⟩ := Dp.reads I _ _ _ (Dp.tup ha hds) rfl
      exact repr_of_reads' R h1 (PyData.noDict_hsm h2) hg (by omega) (fun _ _ z => z) (fun h' t tk hk => ⟨.str _, H, I.kept (t' := tk) hk, ⟨_, rfl⟩, q⟩) h4
end
end Jud
set_option Elab.async false
set_option linter.all false
set_option maxRecDepth 100000
set_option maxHeartbeats 4000000
/-! Further rules: sum of a tuple, the place of an int in a tuple, a tuple of the written part. -/
namespace Jud
open PySem PySem.Spec L2 LamX
open PyProof.Rows hiding St wpAt
section
variable {X : Cx}
theorem flat_ints (ys : List Int) : (ys.map V.int).all flatV = true := by
  rw [List.all_map]
  exact List.all_eq_true.mpr fun _ _ => rfl
/-- sum of a tuple of ints -/
theorem cr_sumT (hc : X.calm = true) : CallR X (.builtin "sum") (fun vs H Q => ∃ (a : Addr) (ns : List Int), vs = [V.ref a] ∧ SqT X.K H a (ns.map V.int) ∧ Q (.int ns.sum) H) := by
  intro pins s σ H vs us Q I r h
  obtain ⟨a, ns, rfl, hs, q⟩ := h
  obtain ⟨its, rv, hl, _⟩ := I.tuple hs
  rw [Vals.ref1 r]
  have hi := rv.ints
  obtain ⟨xs, e⟩ := hi.allInts.items
  have hn : numsOf (intItems xs).toList = ns := by rw [← e]; exact hi.numsOf
  rw [nums_intItems] at hn
  rw [e] at hl
  refine PySem.W.ktm_sumG (I.ok.hd hc) hl fun h' tk t' hk => ⟨.int _, H, I.kept hk, ⟨_, rfl⟩, ?_⟩
  rw [preSum_eq, List.take_of_length_le (by simp), hn]
  exact q
/-- sum of a list or a tuple of ints -/
def rSum2 (K : PySem.W.Frag) : List V → Hp → VK → Prop := fun vs H Q => ∃ (a : Addr) (ns : List Int), vs = [V.ref a] ∧ (SqL K H a (ns.map V.int) ∨ SqT K H a (ns.map V.int)) ∧ Q (.int ns.sum) H
theorem cr_sum2 (hc : X.calm = true) : CallR X (.builtin "sum") (rSum2 X.K) := by
  intro pins s σ H vs us Q I r h
  obtain ⟨a, ns, rfl, hs | hs, q⟩ := h
  · exact cr_sum hc pins s σ H _ us Q I r ⟨a, ns, rfl, hs, q⟩
  · exact cr_sumT hc pins s σ H _ us Q I r ⟨a, ns, rfl, hs, q⟩
/-- t.index(k), k an int of the tuple: its first place -/
def rTIndex (K : PySem.W.Frag) : V → List V → Hp → VK → Prop := fun x xs H Q => ∃ p, ∃ ys : List Int, ∃ z j, x = .ref p ∧ xs = [.int z] ∧ SqT K H p (ys.map V.int) ∧ ys[j]? = some z ∧ (∀ m, m < j → ys[m]? ≠ some z) ∧ Q (.int (j : Nat)) H
theorem mt_tindex : MtR X "tuple.index" (rTIndex X.K) := by
  intro pins s σ H x xs v us Q I rx rs h
  obtain ⟨p, ys, z, j, rfl, rfl, hq, hy, hno, q⟩ := h
  cases rx
  obtain ⟨u, rfl, t, rfl⟩ := vals1 rs
  obtain ⟨its, r, pl, hz⟩ := I.tuple hq
  obtain ⟨⟨cls, dd, dt, sl⟩, ho, hc, n, hd⟩ := pl
  simp only at hc hd
  subst hc
  subst hd
  have hl : its.toArray.size = ys.length := by rw [List.size_toArray, ← r.length, List.length_map]
  have hj : j < its.toArray.size := by rw [hl]; exact (List.getElem?_eq_some_iff.mp hy).1
  have get : ∀ (m : Nat) (hm : m < its.toArray.size), ∃ y t', ys[m]? = some y ∧ its.toArray[m] = Value.int y t' := fun m hm => by
    have hm' : m < ys.length := by rw [← hl]; exact hm
    obtain ⟨w, hw, t', hw'⟩ := r.get (i := m) (x := .int ys[m]) (by simp [hm'])
    refine ⟨ys[m], t', List.getElem?_eq_getElem hm', ?_⟩
    have e := (List.getElem?_eq_some_iff.mp hw).2
    rw [← hw', ← e]
    simp
  have eqi : ∀ (y : Int) (t' : Tok), eqU (.int z) (.int y t') = decide (y = z) := fun y t' => by
    rw [eqU_of (x := .int z) (y := .int y) ⟨t', rfl⟩ rfl]
    show (y == z) = decide (y = z)
    exact Bool.beq_eq_decide_eq y z
  refine call_meets PySem.F.slot_tuple_index ⟨_, ho, rfl⟩ PySem.F.entry_tuple_index (PySem.F.args_tuple_index_2 _ _) (TI.tuple_indexAt p its.toArray n dd sl (.int z t) (eqU (.int z)) j hj ?_ ?_)
    ⟨ho, fun w hw => mem_eqAt (x := .int z) ⟨t, rfl⟩ rfl r (flat_ints ys) w (by simpa using hw), ⟨.int (j : Nat), H, I.tok _, ⟨_, rfl⟩, q⟩⟩
  · obtain ⟨y, t', h1, h2⟩ := get j hj
    rw [hy] at h1
    cases h1
    rw [h2, eqi]
    simp
  · intro m hm hmj
    obtain ⟨y, t', h1, h2⟩ := get m hm
    rw [h2, eqi]
    refine decide_eq_false fun e => hno m hmj ?_
    rw [h1, e]
end
/-- a module's tuple -/
def GTup (K : PySem.W.Frag) (mg : Str → Option Value) (x : Str) (xs : List V) : Prop := ∃ a, mg x = some (.ref a) ∧ (∀ H : Hp, SqT K H a xs) ∧ ∀ H : Hp, tyV K "tuple" (.ref a) H
end Jud
set_option Elab.async false
set_option linter.all false
set_option maxRecDepth 100000
set_option maxHeartbeats 4000000
/-! Any value, its kind; short words for the contexts of this text. -/
namespace Jud
open PySem PySem.Spec L2 LamX
open PyProof.Rows hiding St wpAt
/-- a value of the kinds that are handed about here -/
inductive AnyV (H : Hp) : V → Prop where
  | non : AnyV H .non
  | bl (b : Bool) : AnyV H (.bl b)
  | int (i : Int) : AnyV H (.int i)
  | str (x : Str) : AnyV H (.str x)
  | lst {a : Addr} {xs : List V} (h : H a = some (.lst xs)) : AnyV H (.ref a)
  | tup {a : Addr} {xs : List V} (h : H a = some (.tup xs)) : AnyV H (.ref a)
theorem AnyV.same {H H' : Hp} {x : V} (a : AnyV H x) (e : Same H H') : AnyV H' x := by
  cases a with
  | non => exact .non
  | bl b => exact .bl b
  | int i => exact .int i
  | str x => exact .str x
  | lst h => exact .lst (e _ _ h)
  | tup h => exact .tup (e _ _ h)
def jInt : V → Bool
  | .int _ => true
  | _ => false
def jBl : V → Bool
  | .bl _ => true
  | _ => false
theorem kk (K : PySem.W.Frag) (a b : String) (r : Bool) (h : kitB a b = some r) : PySem.W.kitOne K (.type a) (.type b) = some r := kit_ty h
theorem AnyV.kind {K : PySem.W.Frag} {H : Hp} {x : V} (a : AnyV H x) : ∃ n, TyX K H x (.type n) ∧ PySem.W.kitOne K (.type n) (.type "int") = some (jInt x || jBl x) ∧ PySem.W.kitOne K (.type n) (.type "bool") = some (jBl x) := by
  cases a with
  | non => exact ⟨"NoneType", .base .non, kk K "NoneType" "int" false (by decide +kernel), kk K "NoneType" "bool" false (by decide +kernel)⟩
  | bl b => exact ⟨"bool", .base (.bl b), kk K "bool" "int" true (by decide +kernel), kk K "bool" "bool" true (by decide +kernel)⟩
  | int i => exact ⟨"int", .base (.int i), kk K "int" "int" true (by decide +kernel), kk K "int" "bool" false (by decide +kernel)⟩
  | str x => exact ⟨"str", .base (.str x), kk K "str" "int" false (by decide +kernel), kk K "str" "bool" false (by decide +kernel)⟩
  | lst h => exact ⟨"list", .base (.lst h), kk K "list" "int" false (by decide +kernel), kk K "list" "bool" false (by decide +kernel)⟩
  | tup h => exact ⟨"tuple", .base (.tup h), kk K "tuple" "int" false (by decide +kernel), kk K "tuple" "bool" false (by decide +kernel)⟩
/-- isinstance(x, int) -/
theorem isi_int {K : PySem.W.Frag} {H : Hp} {x : V} {Q : VK} (a : AnyV H x) (q : Q (.bl (jInt x || jBl x)) H) : rIsi K [x, .ty "int"] H Q ∨ rIsErr K [x, .ty "int"] H Q := by
  obtain ⟨n, h1, h2, _⟩ := a.kind (K := K)
  exact .inl ⟨x, .ty "int", .type n, .type "int", _, rfl, .ty _, h1, h2, q⟩
theorem isi_bool {K : PySem.W.Frag} {H : Hp} {x : V} {Q : VK} (a : AnyV H x) (q : Q (.bl (jBl x)) H) : rIsi K [x, .ty "bool"] H Q ∨ rIsErr K [x, .ty "bool"] H Q := by
  obtain ⟨n, h1, _, h2⟩ := a.kind (K := K)
  exact .inl ⟨x, .ty "bool", .type n, .type "bool", _, rfl, .ty _, h1, h2, q⟩
section
variable {P : Program} {w : World} {K : PySem.W.Frag} {mg : Str → Option Value} {base : Heap} {N : List Str} {x : Str} {sc : Scope} {f : Addr} {cdv : Value} {A : Around} {outer : List Env} {s : Shared} {H : Hp} {E : XK}
theorem tkx : Takes (cxOf (L2.CX P w) P w K mg base N x sc f cdv A outer s H E) (fun c d _ H' => E c d H') := takes_of rfl rfl rfl rfl
theorem px : Passes (L2.CX P w) (cxOf (L2.CX P w) P w K mg base N x sc f cdv A outer s H E) E := passes_call tkx fun _ _ _ _ h => h
theorem p0 {X : Cx} : Passes (L2.CX X.prog X.w) X E0 := passL
end
theorem tru_dec {P : Prop} [Decidable P] : (decide P = true) = P := by simp
end Jud
set_option Elab.async false
set_option linter.all false
set_option maxRecDepth 100000
set_option maxHeartbeats 4000000
/-! Loops by an invariant of the turn. -/
namespace Jud
open PySem PySem.Spec L2 LamX
open PyProof.Rows hiding St wpAt
instance (i j : Int) : Decidable (CMulW i j) := inferInstanceAs (Decidable (_ < _))
instance (i j : Int) : Decidable (CDivW i j) := inferInstanceAs (Decidable (_ ∧ _))
/-- what is left of a for once its iterator stands -/
def Lp (J : It) (g : TG) (tb : TS) (D : Ends) (σ : St) (H1 : Hp) : Prop := ∃ W : Nat → Nat → St → Hp → Prop, (∃ m, W 0 m σ H1) ∧ ∀ i m σ H, W i m σ H →
  (J.stop i H ∧ D.nx σ H) ∨ (J.go i H ∧ ∃ N : St → Hp → Prop, (∀ σ' H', N σ' H' → ∃ m', m' < m ∧ W (i + 1) m' σ' H') ∧ ∀ x H', J.yld i H x H' → g x σ H' fun σ2 H2 => tb { D with nx := N, ct := N, bk := D.nx } σ2 H2)
theorem tFor_r1 {ta : TA} {g : TG} {tb : TS} {D : Ends} {σ : St} {H : Hp} : tFor (iRng1 ta) g tb D σ H = ta σ H fun vs H1 => ∃ j : Int, vs = [.int j] ∧ -(2 ^ 62) ≤ j ∧ j < 2 ^ 62 ∧ Lp (Itr 0 j.toNat) g tb D σ H1 := rfl
theorem tFor_r2 {ta : TA} {g : TG} {tb : TS} {D : Ends} {σ : St} {H : Hp} : tFor (iRng2 ta) g tb D σ H = ta σ H fun vs H1 => ∃ i j : Int, vs = [.int i, .int j] ∧ (-(2 ^ 62) ≤ i ∧ i < 2 ^ 62 ∧ -(2 ^ 62) ≤ j ∧ j < 2 ^ 62) ∧ Lp (Itr i (j - i).toNat) g tb D σ H1 := rfl
theorem tFor_l {K : PySem.W.Frag} {tl : TE} {g : TG} {tb : TS} {D : Ends} {σ : St} {H : Hp} : tFor (iList K tl) g tb D σ H = tl σ H fun x H1 => ∃ a, x = .ref a ∧ (∃ xs, SqL K H1 a xs) ∧ Lp (Itl K a) g tb D σ H1 := rfl
theorem tFor_t {K : PySem.W.Frag} {tl : TE} {g : TG} {tb : TS} {D : Ends} {σ : St} {H : Hp} : tFor (iTup K tl) g tb D σ H = tl σ H fun x H1 => ∃ a, x = .ref a ∧ (∃ xs, SqT K H1 a xs) ∧ Lp (Itt K a) g tb D σ H1 := rfl
section
variable {K : PySem.W.Frag} {g : TG} {tb : TS} {D : Ends} {σ : St} {H : Hp}
theorem Lp.rng {lo : Int} {n : Nat} (I : Nat → St → Hp → Prop) (h0 : I 0 σ H) (step : ∀ i, i < n → ∀ σ H, I i σ H → g (.int (lo + i)) σ H fun σ2 H2 => tb { D with nx := I (i + 1), ct := I (i + 1), bk := D.nx } σ2 H2)
    (done : ∀ σ H, I n σ H → D.nx σ H) : Lp (Itr lo n) g tb D σ H := by
  refine ⟨fun i m σ H => m = n - i ∧ i ≤ n ∧ I i σ H, ⟨_, rfl, Nat.zero_le _, h0⟩, ?_⟩
  rintro i m σ H ⟨rfl, hi, h⟩
  by_cases e : i = n
  · subst e
    exact .inl ⟨Nat.le_refl _, done _ _ h⟩
  · have lt : i < n := by omega
    refine .inr ⟨lt, I (i + 1), fun σ' H' z => ⟨n - (i + 1), by omega, rfl, by omega, z⟩, ?_⟩
    rintro x H' ⟨rfl, rfl⟩
    exact step i lt _ _ h
theorem Lp.list {a : Addr} {xs : List V} (I : Nat → St → Hp → Prop) (h0 : I 0 σ H) (hs : ∀ i σ H, I i σ H → SqL K H a xs)
    (step : ∀ i x, xs[i]? = some x → ∀ σ H, I i σ H → g x σ H fun σ2 H2 => tb { D with nx := I (i + 1), ct := I (i + 1), bk := D.nx } σ2 H2)
    (done : ∀ σ H, I xs.length σ H → D.nx σ H) : Lp (Itl K a) g tb D σ H := by
  refine ⟨fun i m σ H => m = xs.length - i ∧ i ≤ xs.length ∧ I i σ H, ⟨_, rfl, Nat.zero_le _, h0⟩, ?_⟩
  rintro i m σ H ⟨rfl, hi, h⟩
  by_cases e : i = xs.length
  · subst e
    exact .inl ⟨⟨xs, hs _ _ _ h, Nat.le_refl _⟩, done _ _ h⟩
  · have lt : i < xs.length := by omega
    refine .inr ⟨⟨xs, xs[i], hs _ _ _ h, List.getElem?_eq_getElem lt⟩, I (i + 1), fun σ' H' z => ⟨xs.length - (i + 1), by omega, rfl, by omega, z⟩, ?_⟩
    rintro x H' ⟨rfl, hx⟩
    exact step i x (hx xs (hs _ _ _ h)) _ _ h
theorem Lp.tup {a : Addr} {xs : List V} (I : Nat → St → Hp → Prop) (h0 : I 0 σ H) (hs : ∀ i σ H, I i σ H → SqT K H a xs)
    (step : ∀ i x, xs[i]? = some x → ∀ σ H, I i σ H → g x σ H fun σ2 H2 => tb { D with nx := I (i + 1), ct := I (i + 1), bk := D.nx } σ2 H2)
    (done : ∀ σ H, I xs.length σ H → D.nx σ H) : Lp (Itt K a) g tb D σ H := by
  refine ⟨fun i m σ H => m = xs.length - i ∧ i ≤ xs.length ∧ I i σ H, ⟨_, rfl, Nat.zero_le _, h0⟩, ?_⟩
  rintro i m σ H ⟨rfl, hi, h⟩
  by_cases e : i = xs.length
  · subst e
    exact .inl ⟨⟨xs, hs _ _ _ h, Nat.le_refl _⟩, done _ _ h⟩
  · have lt : i < xs.length := by omega
    refine .inr ⟨⟨xs, xs[i], hs _ _ _ h, List.getElem?_eq_getElem lt⟩, I (i + 1), fun σ' H' z => ⟨xs.length - (i + 1), by omega, rfl, by omega, z⟩, ?_⟩
    rintro x H' ⟨rfl, hx⟩
    exact step i x (hx xs (hs _ _ _ h)) _ _ h
end
theorem same_refl (H : Hp) : Same H H := fun _ _ e => e
theorem same_trans {H H' H'' : Hp} (a : Same H H') (b : Same H' H'') : Same H H'' := fun x o e => b x o (a x o e)
theorem same_new {H : Hp} {d : Addr} {o : HO} (h : H d = none) : Same H (upd H d o) := fun b u e => by
  rw [upd_ne (ne_of_none e h)]
  exact e
theorem same_upd {H H' : Hp} {d : Addr} {o : HO} (s : Same H H') (h : H d = none) : Same H (upd H' d o) := fun b u e => by
  rw [upd_ne (ne_of_none e h)]
  exact s b u e
theorem same_none {H H' : Hp} {d : Addr} (s : Same H H') (h : H' d = none) : H d = none := by
  cases q : H d with
  | none => rfl
  | some o => rw [s d o q] at h; cases h
theorem sqt_ix {K : PySem.W.Frag} {H : Hp} {a : Addr} {xs : List V} {i : Int} {v : V} {Q : VK} (h : SqT K H a xs) (hi : atI xs i = some v) (q : Q v H) : rIx K (.ref a) (.int i) H Q := .inr (.inl ⟨a, xs, i, v, rfl, rfl, h, hi, q⟩)
theorem sql_ix {K : PySem.W.Frag} {H : Hp} {a : Addr} {xs : List V} {i : Int} {v : V} {Q : VK} (h : SqL K H a xs) (hi : atI xs i = some v) (q : Q v H) : rIx K (.ref a) (.int i) H Q := .inl ⟨a, xs, i, v, rfl, rfl, h, hi, q⟩
theorem sl_of {K : PySem.W.Frag} {H : Hp} {a : Addr} {xs : List V} (h : H a = some (.lst xs)) : SqL K H a xs := .inl (.inl h)
theorem st_of {K : PySem.W.Frag} {H : Hp} {a : Addr} {xs : List V} (h : H a = some (.tup xs)) : SqT K H a xs := .inl (.inl h)
theorem inV_ints (i : Int) (xs : List Int) : inV (.int i) (xs.map V.int) = xs.contains i := by
  unfold inV
  rw [List.any_map]
  show (xs.any fun y => eqV (.int y) (.int i)) = _
  induction xs with
  | nil => rfl
  | cons y r ih =>
    rw [List.any_cons, List.contains_cons, ih]
    congr 1
    show (y == i) = (i == y)
    exact Bool.beq_comm
/-- an error of the class at C with its field -/
def ErrW (C : Addr) (f : Str) (v : V) (H : Hp) (E : XK) : Prop := ∀ d H', H d = none → Same H H' → H' d = some (.xd [(f, v)]) → E (.ref C) (some d) H'
theorem errW_new {C d : Addr} {f : Str} {v : V} {H : Hp} {E : XK} (h : ErrW C f v H E) (hd : H d = none) : E (.ref C) (some d) (upd H d (.xd [(f, v)])) := h d _ hd (same_new hd) upd_same
theorem ErrW.same {C : Addr} {f : Str} {v : V} {H H' : Hp} {E : XK} (h : ErrW C f v H E) (se : Same H H') : ErrW C f v H' E := fun d H'' hd s2 e => h d H'' (same_none se hd) (same_trans se s2) e
/-- an error without fields -/
def Err0 (C : Addr) (H : Hp) (E : XK) : Prop := ∀ H', Same H H' → E (.ref C) none H'
theorem Err0.same {C : Addr} {H H' : Hp} {E : XK} (h : Err0 C H E) (se : Same H H') : Err0 C H' E := fun H'' s2 => h H'' (same_trans se s2)
theorem Err0.now {C : Addr} {H : Hp} {E : XK} (h : Err0 C H E) : E (.ref C) none H := h H (same_refl H)
/-- a new tuple, a new list -/
def TupW (xs : List V) (H : Hp) (Q : VK) : Prop := ∀ a H', H a = none → Same H H' → H' a = some (.tup xs) → Q (.ref a) H'
def LstW (xs : List V) (H : Hp) (Q : VK) : Prop := ∀ a H', H a = none → Same H H' → H' a = some (.lst xs) → Q (.ref a) H'
theorem TupW.same {xs : List V} {H H' : Hp} {Q : VK} (h : TupW xs H Q) (se : Same H H') : TupW xs H' Q := fun a H'' hd s2 e => h a H'' (same_none se hd) (same_trans se s2) e
theorem LstW.same {xs : List V} {H H' : Hp} {Q : VK} (h : LstW xs H Q) (se : Same H H') : LstW xs H' Q := fun a H'' hd s2 e => h a H'' (same_none se hd) (same_trans se s2) e
/-- a value, the heap greater -/
def ValW (v : V) (H : Hp) (Q : VK) : Prop := ∀ H', Same H H' → Q v H'
theorem ValW.same {v : V} {H H' : Hp} {Q : VK} (h : ValW v H Q) (se : Same H H') : ValW v H' Q := fun H'' s2 => h H'' (same_trans se s2)
theorem ValW.now {v : V} {H : Hp} {Q : VK} (h : ValW v H Q) : Q v H := h H (same_refl H)
def vI (xs : List Int) : List V := xs.map V.int
end Jud
set_option Elab.async false
set_option linter.all false
set_option maxRecDepth 100000
set_option maxHeartbeats 4000000
/-! Comprehensions of lists; dicts with written keys. -/
namespace Jud
open PySem PySem.Spec L2 LamX
open PyProof.Rows hiding St wpAt
theorem sql_same {K : PySem.W.Frag} {H H' : Hp} {a : Addr} {xs : List V} (h : SqL K H a xs) (e : Same H H') : SqL K H' a xs := by
  rcases h with (h | ⟨o, h⟩) | h
  · exact .inl (.inl (e _ _ h))
  · exact .inl (.inr ⟨o, e _ _ h⟩)
  · exact .inr h
theorem sqt_same {K : PySem.W.Frag} {H H' : Hp} {a : Addr} {xs : List V} (h : SqT K H a xs) (e : Same H H') : SqT K H' a xs := by
  rcases h with (h | ⟨o, h⟩) | h
  · exact .inl (.inl (e _ _ h))
  · exact .inl (.inr ⟨o, e _ _ h⟩)
  · exact .inr h
/-- what is left of a comprehension once its iterator stands -/
def Lc (J : It) (g : TG) (tt : TT) (te : TE) (vs : List Nat) (σ : St) (H1 : Hp) (Q : VK) : Prop := ∀ D, H1 D = none → ∃ W : Nat → Nat → Hp → Prop, (∃ m, W 0 m (upd H1 D (.lst []))) ∧ ∀ i m H, W i m H →
  (J.stop i H ∧ Q (.ref D) H) ∨ (J.go i H ∧ ∃ Nx : Hp → Prop, (∀ H', Nx H' → ∃ m', m' < m ∧ W (i + 1) m' H') ∧ ∀ x H', J.yld i H x H' → g x (wipe σ vs) H' fun σ2 H2 => wipe σ2 vs = wipe σ vs ∧ tt σ2 H2 fun b H3 =>
    if b = true then te σ2 H3 fun y H4 => ∃ acc, H4 D = some (.lst acc) ∧ acc.length < sizeLine ∧ Nx (upd H4 D (.lst (acc ++ [y]))) else Nx H3)
theorem tLc_l {K : PySem.W.Frag} {tl : TE} {g : TG} {tt : TT} {te : TE} {vs : List Nat} {σ : St} {H : Hp} {Q : VK} : tLc (iList K tl) g tt te vs σ H Q = tl σ H fun x H1 => ∃ a, x = .ref a ∧ (∃ xs, SqL K H1 a xs) ∧ Lc (Itl K a) g tt te vs σ H1 Q := rfl
theorem tLc_t {K : PySem.W.Frag} {tl : TE} {g : TG} {tt : TT} {te : TE} {vs : List Nat} {σ : St} {H : Hp} {Q : VK} : tLc (iTup K tl) g tt te vs σ H Q = tl σ H fun x H1 => ∃ a, x = .ref a ∧ (∃ xs, SqT K H1 a xs) ∧ Lc (Itt K a) g tt te vs σ H1 Q := rfl
theorem tLc_r1 {ta : TA} {g : TG} {tt : TT} {te : TE} {vs : List Nat} {σ : St} {H : Hp} {Q : VK} : tLc (iRng1 ta) g tt te vs σ H Q = ta σ H fun us H1 => ∃ j : Int, us = [.int j] ∧ -(2 ^ 62) ≤ j ∧ j < 2 ^ 62 ∧ Lc (Itr 0 j.toNat) g tt te vs σ H1 Q := rfl
theorem tLc_r2 {ta : TA} {g : TG} {tt : TT} {te : TE} {vs : List Nat} {σ : St} {H : Hp} {Q : VK} : tLc (iRng2 ta) g tt te vs σ H Q = ta σ H fun us H1 => ∃ i j : Int, us = [.int i, .int j] ∧ (-(2 ^ 62) ≤ i ∧ i < 2 ^ 62 ∧ -(2 ^ 62) ≤ j ∧ j < 2 ^ 62) ∧ Lc (Itr i (j - i).toNat) g tt te vs σ H1 Q := rfl
section
variable {K : PySem.W.Frag} {g : TG} {tt : TT} {te : TE} {vs : List Nat} {σ : St} {H : Hp} {Q : VK}
/-- what one turn over x asks: f x tells its element, if it has one -/
def LcStep (g : TG) (tt : TT) (te : TE) (vs : List Nat) (σ : St) (x : V) (o : Option V) (H2 : Hp) : Prop := ∀ (R : VK) (N : Hp → Prop), (∀ y, o = some y → ∀ H3, Same H2 H3 → R y H3) → (o = none → ∀ H3, Same H2 H3 → N H3) →
  g x (wipe σ vs) H2 fun σ2 H3 => wipe σ2 vs = wipe σ vs ∧ tt σ2 H3 fun b H4 => if b = true then te σ2 H4 R else N H4
theorem fm_take {α β : Type} (f : α → Option β) (xs : List α) (i : Nat) (x : α) (h : xs[i]? = some x) : (xs.take (i + 1)).filterMap f = (xs.take i).filterMap f ++ (f x).toList := by
  rw [List.take_add_one, h, List.filterMap_append]
  cases e : f x <;> simp [e]
theorem Lc.walk {J : It} {xs : List V} (f : V → Option V) (hl : xs.length < 100000) (hgo : ∀ i H2, Same H H2 → i < xs.length → J.go i H2) (hy : ∀ i H2 x H', Same H H2 → J.yld i H2 x H' → i < xs.length → H' = H2 ∧ xs[i]? = some x) (hst : ∀ H2, Same H H2 → J.stop xs.length H2)
    (step : ∀ (i : Nat) (x : V) (H2 : Hp), xs[i]? = some x → Same H H2 → LcStep g tt te vs σ x (f x) H2) (q : LstW (xs.filterMap f) H Q) : Lc J g tt te vs σ H Q := by
  intro D hD
  refine ⟨fun i m Hc => m = xs.length - i ∧ i ≤ xs.length ∧ Same H Hc ∧ Hc D = some (.lst ((xs.take i).filterMap f)), ⟨_, rfl, Nat.zero_le _, same_new hD, by rw [upd_same]; simp⟩, ?_⟩
  rintro i m Hc ⟨rfl, hi, hs, hc⟩
  by_cases e : i = xs.length
  · subst e
    rw [List.take_length] at hc
    exact .inl ⟨hst _ hs, q D Hc hD hs hc⟩
  · have lt : i < xs.length := by omega
    refine .inr ⟨hgo i Hc hs lt, fun H' => Same H H' ∧ H' D = some (.lst ((xs.take (i + 1)).filterMap f)), fun H' z => ⟨xs.length - (i + 1), by omega, rfl, by omega, z.1, z.2⟩, ?_⟩
    intro x H' yx
    obtain ⟨rfl, hx⟩ := hy i Hc x H' hs yx lt
    have ft := fm_take f xs i x hx
    refine step i x _ hx hs _ _ (fun y ey H3 s3 => ⟨(xs.take i).filterMap f, s3 _ _ hc, ?_, same_upd (same_trans hs s3) hD, ?_⟩) (fun en H3 s3 => ⟨same_trans hs s3, ?_⟩)
    · have h1 : ((xs.take i).filterMap f).length ≤ (xs.take i).length := List.length_filterMap_le _ _
      have h2 : (xs.take i).length ≤ xs.length := by rw [List.length_take]; exact Nat.min_le_right _ _
      exact Nat.lt_of_lt_of_le (by omega : _ < 100000) (by decide)
    · rw [upd_same, ft, ey]
      rfl
    · rw [ft, en]
      simpa using s3 _ _ hc
theorem Lc.list {a : Addr} {xs : List V} (f : V → Option V) (hs : SqL K H a xs) (hl : xs.length < 100000) (step : ∀ (i : Nat) (x : V) (H2 : Hp), xs[i]? = some x → Same H H2 → LcStep g tt te vs σ x (f x) H2) (q : LstW (xs.filterMap f) H Q) : Lc (Itl K a) g tt te vs σ H Q :=
  Lc.walk f hl (fun i H2 s lt => ⟨xs, xs[i], sql_same hs s, List.getElem?_eq_getElem lt⟩) (fun i H2 x H' s y lt => ⟨y.1, y.2 xs (sql_same hs s)⟩) (fun H2 s => ⟨xs, sql_same hs s, Nat.le_refl _⟩) step q
theorem Lc.tup {a : Addr} {xs : List V} (f : V → Option V) (hs : SqT K H a xs) (hl : xs.length < 100000) (step : ∀ (i : Nat) (x : V) (H2 : Hp), xs[i]? = some x → Same H H2 → LcStep g tt te vs σ x (f x) H2) (q : LstW (xs.filterMap f) H Q) : Lc (Itt K a) g tt te vs σ H Q :=
  Lc.walk f hl (fun i H2 s lt => ⟨xs, xs[i], sqt_same hs s, List.getElem?_eq_getElem lt⟩) (fun i H2 x H' s y lt => ⟨y.1, y.2 xs (sqt_same hs s)⟩) (fun H2 s => ⟨xs, sqt_same hs s, Nat.le_refl _⟩) step q
theorem Lc.rng {lo : Int} {n : Nat} (f : V → Option V) (hl : n < 100000) (step : ∀ (i : Nat) (H2 : Hp), i < n → Same H H2 → LcStep g tt te vs σ (.int (lo + (i : Nat))) (f (.int (lo + (i : Nat)))) H2) (q : LstW (((List.range n).map fun i => V.int (lo + (i : Nat))).filterMap f) H Q) : Lc (Itr lo n) g tt te vs σ H Q :=
  Lc.walk (xs := (List.range n).map fun i => V.int (lo + (i : Nat))) f (by simpa using hl) (fun i H2 s lt => (by simpa using lt : i < n)) (fun i H2 x H' s y lt => ⟨y.1, by
      have lt' : i < n := by simpa using lt
      rw [y.2]
      simp [lt']⟩) (fun H2 s => (by simp [Itr] : (Itr lo n).stop _ H2)) (fun i x H2 hx s => by
      have lt : i < n := by
        have := (List.getElem?_eq_some_iff.mp hx).1
        simpa using this
      have e : x = .int (lo + (i : Nat)) := by
        simp [lt] at hx
        exact hx.symm
      rw [e]
      exact step i H2 lt s) q
end
theorem dget {H : Hp} {d : Addr} {kvs : List (Key × V)} {y : V} {k : Key} {v : V} (h : H d = some (.dK kvs)) (ey : y = kV k) (hv : valV kvs k = some v) : DGet H d y (some v) := .inl ⟨kvs, k, .inl h, ey, hv.symm⟩
end Jud
set_option Elab.async false
set_option linter.all false
set_option maxRecDepth 100000
set_option maxHeartbeats 4000000
/-! The laws' draws: the dict with the great numbers, the cells, the rest, the turn. -/
namespace Jud
open PySem PySem.Spec L2 LamX
open PyProof.Rows hiding St wpAt
theorem call_int_i {X : Cx} : CallR X (.type "int") (fun xs H Q => ∃ i, xs = [.int i] ∧ Q (.int i) H) := fun pins s σ H xs us Q I r h => call_int1 pins s σ H xs us Q I r (.inl h)
abbrev kL : Key := .inr "large"
abbrev kC : Key := .inr "cells"
abbrev kR : Key := .inr "rest"
abbrev kT : Key := .inr "turn"
def drD (l c r t : V) : HO := .dK [(kL, l), (kC, c), (kR, r), (kT, t)]
/-- the law's draw: its dict at d, its list of great numbers at l; at most b more blends may be asked -/
structure Draw (b : Nat) (H : Hp) (d l : Addr) : Prop where
  ex : ∃ (c : Addr) (ls cs : List Int) (r t : Int), H d = some (drD (.ref l) (.ref c) (.int r) (.int t)) ∧
    H l = some (.lst (vI ls)) ∧ H c = some (.lst (vI cs)) ∧ l ≠ c ∧ cs.length ≤ 63 ∧ ls.length ≤ 63 ∧ (∀ i ∈ cs, 0 ≤ i ∧ i < 2147483629) ∧ 0 ≤ t ∧ t + b ≤ 100000
/-- all but the draw is kept -/
def Kd (d l : Addr) (H H' : Hp) : Prop := ∀ b o, H b = some o → b ≠ d → b ≠ l → H' b = some o
theorem Kd.refl {d l : Addr} {H : Hp} : Kd d l H H := fun _ _ e _ _ => e
theorem Kd.trans {d l : Addr} {H H' H'' : Hp} (a : Kd d l H H') (b : Kd d l H' H'') : Kd d l H H'' := fun x o e n1 n2 => b x o (a x o e n1 n2) n1 n2
theorem Kd.of {d l : Addr} {H H' : Hp} (s : Same H H') : Kd d l H H' := fun x o e _ _ => s x o e
theorem Kd.putD {d l : Addr} {H : Hp} {o : HO} : Kd d l H (upd H d o) := fun x u e n1 n2 => by rw [upd_ne n1]; exact e
theorem Kd.putL {d l : Addr} {H : Hp} {o : HO} : Kd d l H (upd H l o) := fun x u e n1 n2 => by rw [upd_ne n2]; exact e
theorem get_L {l c r t : V} {H : Hp} {d : Addr} (h : H d = some (drD l c r t)) : DGet H d (.str "large") (some l) := dget h (k := kL) rfl rfl
theorem get_C {l c r t : V} {H : Hp} {d : Addr} (h : H d = some (drD l c r t)) : DGet H d (.str "cells") (some c) := dget h (k := kC) rfl rfl
theorem get_R {l c r t : V} {H : Hp} {d : Addr} (h : H d = some (drD l c r t)) : DGet H d (.str "rest") (some r) := dget h (k := kR) rfl rfl
theorem get_T {l c r t : V} {H : Hp} {d : Addr} (h : H d = some (drD l c r t)) : DGet H d (.str "turn") (some t) := dget h (k := kT) rfl rfl
theorem put_R {l c r t v : V} {H : Hp} {d : Addr} (h : H d = some (drD l c r t)) : DPut H d (.str "rest") v (upd H d (drD l c v t)) := DPut.k (k := kR) h (by show 4 < sizeLine; decide)
theorem put_T {l c r t v : V} {H : Hp} {d : Addr} (h : H d = some (drD l c r t)) : DPut H d (.str "turn") v (upd H d (drD l c r v)) := DPut.k (k := kT) h (by show 4 < sizeLine; decide)
def ofI (g : Int → Option Int) : V → Option V
  | .int i => (g i).map .int
  | _ => none
theorem ofI_vI (g : Int → Option Int) : ∀ xs : List Int, (vI xs).filterMap (ofI g) = vI (xs.filterMap g)
  | [] => rfl
  | x :: r => by
    show (V.int x :: vI r).filterMap (ofI g) = _
    rw [List.filterMap_cons, List.filterMap_cons, ofI_vI g r]
    have e : ofI g (V.int x) = (g x).map V.int := rfl
    rw [e]
    cases g x <;> rfl
theorem vI_get {xs : List Int} {i : Nat} {x : V} (h : (vI xs)[i]? = some x) : ∃ z, x = .int z ∧ xs[i]? = some z := by
  unfold vI at h
  rw [List.getElem?_map] at h
  cases e : xs[i]? with
  | none => rw [e] at h; cases h
  | some z => rw [e] at h; cases h; exact ⟨z, rfl, rfl⟩
instance (i j : Int) : Decidable (CPow i j) := inferInstanceAs (Decidable (_ ∧ _))
theorem mul_ok {i j : Int} (a b : Nat) (hab : 0 < a ∧ 0 < b := by decide) (hi : -2 ^ a < i ∧ i < 2 ^ a) (hj : -2 ^ b < j ∧ j < 2 ^ b) (h : a + b ≤ 1000000) : CMulW i j := by
  have f : ∀ (x : Int) (n : Nat), -2 ^ n < x ∧ x < 2 ^ n → x.natAbs < 2 ^ n := fun x n hx => by
    have e : ((2 ^ n : Nat) : Int) = 2 ^ n := by simp
    omega
  exact wide_mul (f i a hi) (f j b hj) hab.1 hab.2 h
theorem primes_at {i : Nat} {x : V} (h : [V.int 2147483647, V.int 2147483629, V.int 2147483587, V.int 2147483579][i]? = some x) : ∃ q : Int, x = .int q ∧ 2147483579 ≤ q ∧ q ≤ 2147483647 ∧ i < 4 := by
  match i, h with
  | 0, h => cases h; exact ⟨_, rfl, by decide, by decide, by decide⟩
  | 1, h => cases h; exact ⟨_, rfl, by decide, by decide, by decide⟩
  | 2, h => cases h; exact ⟨_, rfl, by decide, by decide, by decide⟩
  | 3, h => cases h; exact ⟨_, rfl, by decide, by decide, by decide⟩
  | n + 4, h => cases h
theorem dpAll_ints {K : PySem.W.Frag} {H : Hp} : ∀ xs : List Int, DpAll K H (vI xs) (xs.map .int)
  | [] => .nil
  | x :: r => .cons (.int x) (dpAll_ints r)
theorem seq0 {n : Nat} (h : 0 < n) : seqIndex? 0 n = some 0 := by
  unfold seqIndex?
  have e : (0 : Int) < n := by omega
  have e2 : (decide ((0 : Int) ≤ 0) && decide ((0 : Int) < n)) = true := by simp [h]
  show (if (decide ((0 : Int) ≤ 0) && decide ((0 : Int) < n)) = true then some (0 : Int).toNat else none) = some 0
  rw [if_pos e2]
  rfl
theorem dp_shaped (xs : List Int) : SeqAt.shaped (.list (xs.map .int)) = true := by
  have c : ∀ ns : List Int, PyData.canLayAll0 (ns.map PyData.int) = true := fun ns => by
    induction ns with
    | nil => rfl
    | cons a r ih => simp [PyData.canLayAll0, PyData.canLay0, ih]
  have e : ∀ ns : List Int, PyData.depthAll (ns.map PyData.int) = 0 := fun ns => by
    induction ns with
    | nil => rfl
    | cons a r ih => simp [PyData.depthAll, PyData.depth, ih]
  simp [SeqAt.shaped, PyData.canLay0, PyData.depth, c, e]
theorem pow2_le {a b : Nat} (h : a ≤ b) : (2 : Int) ^ a ≤ 2 ^ b := by
  have := Nat.pow_le_pow_right (show 0 < 2 by decide) h
  have e : ∀ n : Nat, ((2 ^ n : Nat) : Int) = 2 ^ n := fun n => by simp
  rw [← e, ← e]
  exact_mod_cast this
def absI (i : Int) : Int := if i < 0 then -i else i
theorem absI_nn (i : Int) : 0 ≤ absI i := by unfold absI; split <;> omega
def sp_law_begun (K : PySem.W.Frag) : Sp := fun vs H Q _ => ∃ (a : Addr) (xs : List Int), vs = [.ref a] ∧ SqL K H a (vI xs) ∧ xs.length ≤ 63 ∧ ∀ d l H', H d = none → H l = none → d ≠ l → Same H H' → Draw 99999 H' d l → Q (.ref d) H'
def sp_law_mixed : Sp := fun vs H Q _ => ∃ (b : Nat) (d l : Addr), vs = [.ref d] ∧ d ≠ l ∧ Draw (b + 1) H d l ∧ ∀ z H', Kd d l H H' → Draw b H' d l → Q (.int z) H'
def sp_law_take : Sp := fun vs H Q _ => ∃ (b : Nat) (d l : Addr) (m : Int), vs = [.ref d, .int m] ∧ d ≠ l ∧ 0 < m ∧ m.natAbs.log2 < 9000 ∧ Draw (b + 1) H d l ∧ ∀ z H', 0 ≤ z → z < m → Kd d l H H' → Draw b H' d l → Q (.int z) H'
def sp_law_pick (K : PySem.W.Frag) : Sp := fun vs H Q _ => ∃ (b : Nat) (d l s : Addr) (xs : List V), vs = [.ref d, .ref s] ∧ d ≠ l ∧ H s = some (.lst xs) ∧ s ≠ d ∧ s ≠ l ∧ xs ≠ [] ∧ xs.length < 1000 ∧ Draw (b + 1) H d l ∧ ∀ v H', v ∈ xs → Kd d l H H' → Draw b H' d l → Q v H'
theorem Draw.less {b b' : Nat} {H : Hp} {d l : Addr} (h : Draw b H d l) (e : b' ≤ b) : Draw b' H d l := by
  obtain ⟨c, ls, cs, r, t, h1, h2, h3, h4, h5, h6, h7, h8, h9⟩ := h.ex
  exact ⟨c, ls, cs, r, t, h1, h2, h3, h4, h5, h6, h7, h8, by omega⟩
theorem Draw.same {b : Nat} {H H' : Hp} {d l : Addr} (h : Draw b H d l) (s : Same H H') : Draw b H' d l := by
  obtain ⟨c, ls, cs, r, t, h1, h2, h3, h4⟩ := h.ex
  exact ⟨c, ls, cs, r, t, s _ _ h1, s _ _ h2, s _ _ h3, h4⟩
/-- what is left of a take once the rest is there -/
theorem take_end {b : Nat} {d l c : Addr} {ls cs : List Int} {r t m : Int} {H H0 : Hp} {Q : VK} (nd : d ≠ l) (h0 : 0 < m) (h1 : m.natAbs.log2 < 9000) (hd : H d = some (drD (.ref l) (.ref c) (.int r) (.int t))) (hl : H l = some (.lst (vI ls))) (hc : H c = some (.lst (vI cs)))
    (n : l ≠ c) (l1 : cs.length ≤ 63) (l2 : ls.length ≤ 63) (hb : ∀ i ∈ cs, 0 ≤ i ∧ i < 2147483629) (t0 : 0 ≤ t) (t1 : t + b ≤ 100000) (s : Kd d l H0 H)
    (k : ∀ z H', 0 ≤ z → z < m → Kd d l H0 H' → Draw b H' d l → Q (.int z) H') :
    ∃ x, DGet H d (.str "rest") (some x) ∧ ∃ i, x = .int i ∧ 0 < m ∧ ∃ x, DGet H d (.str "rest") (some x) ∧ ∃ i1, x = .int i1 ∧ CDivW i1 m ∧ ∃ x, DPut H d (.str "rest") (.int (i1 / m)) x ∧ Q (.int (i % m)) x := by
  have cd : c ≠ d := fun e => by rw [e, hd] at hc; cases hc
  refine ⟨_, get_R hd, r, rfl, h0, _, get_R hd, r, rfl, ⟨h0, h1⟩, _, put_R hd, k _ _ (Int.emod_nonneg _ (by omega)) (Int.emod_lt_of_pos _ h0) (s.trans Kd.putD) ?_⟩
  exact ⟨c, ls, cs, _, t, upd_same, by rw [upd_ne nd.symm]; exact hl, by rw [upd_ne cd]; exact hc, n, l1, l2, hb, t0, t1⟩
end Jud
set_option Elab.async false
set_option linter.all false
set_option maxRecDepth 100000
set_option maxHeartbeats 4000000
/-! Work that is caught; the same as shown. -/
namespace Jud
open PySem PySem.Spec L2 LamX
open PyProof.Rows hiding St wpAt
/-- how a lambda's body ends: P where an error comes, R where a value -/
def TlW (tl : XK → Hp → VK → Prop) (H0 : Hp) (P : XK) (R : VK) : Prop := ∀ (E : XK) (Q : VK), (∀ c d H1, P c d H1 → E c d H1) → (∀ v H1, R v H1 → Q v H1) → tl E H0 Q
def NoV : VK := fun _ _ => False
def sp_law_caught (P : Program) (w : World) (K : PySem.W.Frag) (mg : Str → Option Value) (base : Heap) (cJ : Addr) : Sp := fun vs H Q _ => ∃ (f : Addr) (L : List Addr) (tl : XK → Hp → VK → Prop) (Pe : XK) (R : VK), vs = [.ref f] ∧ CloAt P w K mg base 10 H f L tl ∧ TlW tl (hid L H) Pe R ∧
  (∀ c d H1, Pe c d H1 → (∀ b ∈ L, H1 b = none) → PySem.W.exmOne K c (.ref cJ) = some true ∧ ∀ a, rst L H H1 a = none → Q (.ref a) (upd (rst L H H1) a (ErrO c d a))) ∧
  (∀ v H1, R v H1 → (∀ b ∈ L, H1 b = none) → Q .non (rst L H H1))
def sp_law_is_bad (P : Program) (w : World) (K : PySem.W.Frag) (mg : Str → Option Value) (base : Heap) (cN : Addr) : Sp := fun vs H Q _ => ∃ (f : Addr) (L : List Addr) (tl : XK → Hp → VK → Prop) (Pe : XK) (p : Str), vs = [.ref f, .str p] ∧ CloAt P w K mg base 10 H f L tl ∧ TlW tl (hid L H) Pe NoV ∧
  p.length ≤ 100 ∧ (PyData.str p).showable = true ∧ (PyData.str p).shown.length ≤ 1000 ∧
  (∀ c d H1, Pe c d H1 → (∀ b ∈ L, H1 b = none) → c = .ref cN ∧ ∃ dd, d = some dd ∧ H1 dd = some (.xd [("part", .str p)]) ∧ ∀ H2, Same (rst L H H1) H2 → Q (.bl true) H2)
/-- data that repr shows -/
structure Shw (d : PyData) : Prop where
  sh : d.showable = true
  nd : d.hasDict = false
  dp : d.depth ≤ 40
  ln : d.shown.length ≤ sizeLine
def sp_law_same (K : PySem.W.Frag) : Sp := fun vs H Q _ => ∃ (x y : V) (d : PyData), vs = [x, y] ∧ Dp K H x d ∧ Dp K H y d ∧ Shw d ∧ Q (.bl true) H
end Jud
set_option Elab.async false
set_option linter.all false
set_option maxRecDepth 100000
set_option maxHeartbeats 4000000
/-! What repr can show, told without its text. -/
namespace Jud
open PySem PySem.Spec L2 LamX
open PyProof.Rows hiding St wpAt
mutual
def fine : PyData → Bool
  | .none => true
  | .bool _ => true
  | .int i => decide (i.natAbs.log2 < 1920)
  | .str x => x.cps.toList.all fun c => decide (c < 16 ^ 8)
  | .list xs => fineAll xs
  | .tuple xs => fineAll xs
  | .dict _ => false
def fineAll : List PyData → Bool
  | [] => true
  | x :: r => fine x && fineAll r
end
mutual
theorem fine_ok : ∀ d : PyData, fine d = true → d.showable = true ∧ d.hasDict = false ∧ d.leavesShort 1921 = true
  | .none, _ => ⟨rfl, rfl, rfl⟩
  | .bool _, _ => ⟨rfl, rfl, rfl⟩
  | .int i, h => by
    have h' : i.natAbs.log2 < 1920 := of_decide_eq_true (by simpa only [fine] using h)
    refine ⟨by simpa only [PyData.showable] using decide_eq_true h', rfl, ?_⟩
    simp only [PyData.leavesShort]
    refine decide_eq_true ?_
    have e := int_text_length_le (k := 1920) (by decide) h'
    have z : (PyData.shown (.int i)).length = (toString i).length := by
      simp only [PyData.shown]
      exact PySem.ofString_length _
    omega
  | .str x, h => ⟨rfl, rfl, by simpa only [PyData.leavesShort, fine] using h⟩
  | .list xs, h => by
    obtain ⟨a, b, c⟩ := fineAll_ok xs (by simpa only [fine] using h)
    exact ⟨by simpa only [PyData.showable] using a, by simpa only [PyData.hasDict] using b, by simpa only [PyData.leavesShort] using c⟩
  | .tuple xs, h => by
    obtain ⟨a, b, c⟩ := fineAll_ok xs (by simpa only [fine] using h)
    exact ⟨by simpa only [PyData.showable] using a, by simpa only [PyData.hasDict] using b, by simpa only [PyData.leavesShort] using c⟩
  | .dict _, h => by simp only [fine] at h; cases h
theorem fineAll_ok : ∀ xs : List PyData, fineAll xs = true → PyData.showableAll xs = true ∧ PyData.hasDictAll xs = false ∧ PyData.leavesShortAll 1921 xs = true
  | [], _ => ⟨rfl, rfl, rfl⟩
  | x :: r, h => by
    have h' : (fine x && fineAll r) = true := by simpa only [fineAll] using h
    rw [Bool.and_eq_true] at h'
    obtain ⟨a, b, c⟩ := fine_ok x h'.1
    obtain ⟨a', b', c'⟩ := fineAll_ok r h'.2
    exact ⟨by simp only [PyData.showableAll, a, a', Bool.and_self], by simp only [PyData.hasDictAll, b, b', Bool.or_self], by simp only [PyData.leavesShortAll, c, c', Bool.and_self]⟩
end
theorem Shw.of {d : PyData} (h : fine d = true) (hd : d.depth ≤ 40) (hb : d.bulk ≤ 8000) : Shw d := by
  obtain ⟨a, b, c⟩ := fine_ok d h
  have e := PyData.shown_le_bulk 1921 (by decide) d c
  exact ⟨a, b, hd, Nat.le_trans e (by rw [sizeLine_eq]; omega)⟩
/-- told by a small decision -/
def shwB (d : PyData) : Bool := fine d && (decide (d.depth ≤ 40) && decide (d.bulk ≤ 8000))
theorem Shw.ofB {d : PyData} (h : shwB d = true) : Shw d := by
  unfold shwB at h
  rw [Bool.and_eq_true, Bool.and_eq_true] at h
  exact .of h.1 (of_decide_eq_true h.2.1) (of_decide_eq_true h.2.2)
end Jud
set_option Elab.async false
set_option linter.all false
set_option maxRecDepth 100000
set_option maxHeartbeats 4000000
/-! _law_is_bad and _law_caught, called with a lambda. -/
namespace Jud
open PySem PySem.Spec L2 LamX
open PyProof.Rows hiding St wpAt
theorem At.uniq {K : PySem.W.Frag} {mg : Str → Option Value} {x : Str} {st : Stmt} {f f' : Addr} {cdv cdv' : Value} (a : At K mg x st f cdv) (b : At K mg x st f' cdv') : cdv = cdv' := by
  have e1 : f = f' := by
    have z := a.gl.symm.trans b.gl
    cases z
    rfl
  subst e1
  obtain ⟨_, _, _, _, _, _, _, _, h1⟩ := a.ex
  obtain ⟨_, _, _, _, _, _, _, _, h2⟩ := b.ex
  rw [h1] at h2
  injection h2 with h2
  injection h2 with _ _ h2
  injection h2 with h2
  injection h2
section
variable {P : Program} {w : World} {K : PySem.W.Frag} {mg : Str → Option Value} {base : Heap} {N : List Str} {q : Str} {scope : Scope} {cl : List (Str × Addr)} {A : Around} {outer : List Env} {s : Shared} {H : Hp} {E : XK} {f c' : Addr}
theorem tkl : Takes (cloCx P w K mg base N q scope cl A outer s H E f c') (fun c d _ H' => E c d H') := takes_of rfl rfl rfl rfl
theorem pxl : Passes (L2.CX P w) (cloCx P w K mg base N q scope cl A outer s H E f c') E := passes_call tkl fun _ _ _ _ h => h
end
section
variable {P : Program} {w : World} {K : PySem.W.Frag} {mg : Str → Option Value} {base : Heap} {N : List Str} {q : Str} {scope : Scope} {cl : List (Str × Addr)} {A : Around} {outer : List Env} {s : Shared} {H : Hp} {E E' : XK} {f c' : Addr}
/-- a held function called in a lambda's body: the reading names the text alone -/
theorem pe_callVl {k i : Nat} {x : Str} {e : Expr} {es : List Expr} {t : TA} {p pos : Pos} (hr : Rm k (cloCx P w K mg base N q scope cl A outer s H E f c').A) (hx : Passes (L2.CX P w) (cloCx P w K mg base N q scope cl A outer s H E f c') E') (hN : N[i]? = some x) (hv : Vis scope x) (ha : PA (cloCx P w K mg base N q scope cl A outer s H E f c') (e :: es) t)
    (hdb : (x == ("__debug__" : Str)) = false := by decide) (hcd : (x == ("__classdict__" : Str)) = false := by decide)
    (he : starEach (e :: es) (cloCx P w K mg base N q scope cl A outer s H E f c').env = (false, eval e (cloCx P w K mg base N q scope cl A outer s H E f c').env) :: starEach es (cloCx P w K mg base N q scope cl A outer s H E f c').env := by rfl)
    (hpl : (backTo pos (starEach es (cloCx P w K mg base N q scope cl A outer s H E f c').env)).any (·.1) = false := by rfl) :
    PE (cloCx P w K mg base N q scope cl A outer s H E f c') (.Call (.Name x p) (e :: es) [] pos) (tCallV P w K mg base k i E' t) :=
  pe_callV (X := cloCx P w K mg base N q scope cl A outer s H E f c') hr hx hN hv ha hdb hcd he hpl
end
/-- all but the draw and the tables is kept -/
def KdN (d l : Addr) (H H' : Hp) : Prop := ∀ b o, H b = some o → b ≠ d → b ≠ l → (∀ ps, o ≠ .tbl ps) → H' b = some o
theorem KdN.refl {d l : Addr} {H : Hp} : KdN d l H H := fun _ _ e _ _ _ => e
theorem KdN.trans {d l : Addr} {H H' H'' : Hp} (a : KdN d l H H') (b : KdN d l H' H'') : KdN d l H H'' := fun x o e n1 n2 n3 => b x o (a x o e n1 n2 n3) n1 n2 n3
theorem KdN.of {d l : Addr} {H H' : Hp} (a : Kd d l H H') : KdN d l H H' := fun x o e n1 n2 _ => a x o e n1 n2
theorem drD_ne {l c r t : V} (o : Obj) : drD l c r t ≠ Fz o := fun z => by unfold Fz drD at z; cases z
theorem drD_tbl {l c r t : V} (ps : Array Value) : drD l c r t ≠ .tbl ps := fun z => by unfold drD at z; cases z
theorem Draw.ext {b : Nat} {H H' : Hp} {d l : Addr} (h : Draw b H d l) (s : ExtN H H') : Draw b H' d l := by
  obtain ⟨c, ls, cs, r, t, h1, h2, h3, h4⟩ := h.ex
  exact ⟨c, ls, cs, r, t, s _ _ h1 fun ps => drD_tbl ps, s _ _ h2 (fun ps z => nomatch z), s _ _ h3 (fun ps z => nomatch z), h4⟩
/-- the tables stay where all but the draw stays -/
theorem tabs_kd {T : List (Addr × Str)} {b : Nat} {d l : Addr} {H H' : Hp} (t : Tabs T H) (dr : Draw b H d l) (k : Kd d l H H') : Tabs T H' := fun p hp => by
  obtain ⟨c, ls, cs, r, tt, h1, h2, _⟩ := dr.ex
  obtain ⟨ps, a1, a2, a3⟩ := t p hp
  refine ⟨ps, k _ _ a1 (fun e => ?_) (fun e => ?_), a2, fun pos cv hc => ?_⟩
  · rw [e, h1] at a1; cases a1
  · rw [e, h2] at a1; cases a1
  · obtain ⟨c0, e1, e2⟩ := a3 pos cv hc
    refine ⟨c0, e1, k _ _ e2 (fun e => ?_) (fun e => ?_)⟩
    · rw [e, h1] at e2; unfold CodeO drD at e2; cases e2
    · rw [e, h2] at e2; unfold CodeO at e2; cases e2
theorem Kd.draw {b b' : Nat} {d l : Addr} {H H' : Hp} (h : Draw b' H d l) (s : Same H H') : Draw b' H' d l := h.same s
section
variable {P : Program} {w : World} {K : PySem.W.Frag} {mg : Str → Option Value} {base : Heap} {q : Str} {T : List (Addr × Str)} {t : XK → TE} {ta : TA} {σ : St} {H : Hp} {Q : VK} {b b' : Nat} {d l : Addr} {E : XK}
/-- what the two lemmas share: the heap behind the call -/
theorem lam_back {f : Addr} {L : List Addr} {H1 H3 H4 H5 : Hp} {tl : XK → Hp → VK → Prop} (hT : Tabs T H) (hd : Draw b H d l) (e1 : ExtN H H1) (T1 : Tabs T H1) (nfL : f ∉ L) (hf : H1 f = none) (hL : ∀ b ∈ L, H1 b = none) (s13 : Same H1 H3) (C : CloAt P w K mg base 10 H3 f L tl)
    (kd : Kd d l (hid L H3) H4) (dr : Draw b' H4 d l) (hn : ∀ b ∈ L, H4 b = none) (s5 : Same (rst L H3 H4) H5) : KdN d l H (hid (f :: L) H5) ∧ Tabs T (hid (f :: L) H5) ∧ Draw b' (hid (f :: L) H5) d l ∧ H4 f ≠ none := by
  have dr1 := hd.ext e1
  have F : Kd d l H1 (hid (f :: L) H5) := fun x o e n1 n2 => by
    have xf : x ≠ f := ne_of_none e hf
    have xL : x ∉ L := fun z => by rw [hL x z] at e; cases e
    have h0 : hid L H3 x = some o := by rw [hid_out xL]; exact s13 _ _ e
    have h4 := kd x o h0 n1 n2
    have h5 := s5 x o (by rw [rst_out xL]; exact h4)
    rw [hid_out (by intro z; rcases List.mem_cons.mp z with z | z; exact xf z; exact xL z)]
    exact h5
  obtain ⟨c1, ls1, cs1, r1, t1, g1, g2, _⟩ := dr1.ex
  have fd : f ≠ d := fun e => by rw [e, g1] at hf; cases hf
  have fl : f ≠ l := fun e => by rw [e, g2] at hf; cases hf
  obtain ⟨o4, h4f⟩ : ∃ o, H4 f = some (Fz o) := by
    obtain ⟨_, _, _, _, _, _, _, _, _, _, _, a1, _⟩ := C.ex
    exact ⟨_, kd f _ (by rw [hid_out nfL]; exact a1) fd fl⟩
  refine ⟨fun x o e n1 n2 n3 => F x o (e1 x o e n3) n1 n2, tabs_kd T1 dr1 F, ?_, fun z => by rw [h4f] at z; cases z⟩
  obtain ⟨c, ls, cs, r, tt, h1, h2, h3, h4⟩ := dr.ex
  have G : ∀ x o, H4 x = some o → (∀ u, o ≠ Fz u) → hid (f :: L) H5 x = some o := fun x o e n => by
    have xf : x ≠ f := fun z => by rw [z, h4f] at e; cases e; exact n _ rfl
    have xL : x ∉ L := fun z => by rw [hn x z] at e; cases e
    have h5 := s5 x o (by rw [rst_out xL]; exact e)
    rw [hid_out (by intro z; rcases List.mem_cons.mp z with z | z; exact xf z; exact xL z)]
    exact h5
  exact ⟨c, ls, cs, r, tt, G _ _ h1 fun u => drD_ne u, G _ _ h2 (fun u z => by unfold Fz at z; cases z), G _ _ h3 (fun u z => by unfold Fz at z; cases z), h4⟩
theorem ext_hid {f : Addr} {L : List Addr} {H1 H3 : Hp} (e1 : ExtN H H1) (hL : ∀ b ∈ L, H1 b = none) (s13 : Same H1 H3) : ExtN H (hid L H3) := fun x o e n => by
  have e2 := e1 x o e n
  have xL : x ∉ L := fun z => by rw [hL x z] at e2; cases e2
  rw [hid_out xL]
  exact s13 _ _ e2
theorem lam_bad {cN : Addr} {part : Str} (hT : Tabs T H) (hd : Draw b H d l) (hta : ∀ (H1 : Hp) (R : List V → Hp → Prop), R [.str part] H1 → ta σ H1 R) (p1 : part.length ≤ 100) (p2 : (PyData.str part).shown.length ≤ 1000)
    (hb : ∀ H0, ExtN H H0 → TlW (fun E' H' Q' => t E' σ H' Q') H0 (fun c d' H1 => c = .ref cN ∧ ∃ dd, d' = some dd ∧ H1 dd = some (.xd [("part", .str part)]) ∧ Kd d l H0 H1 ∧ Draw b' H1 d l) NoV)
    (k : ∀ H', KdN d l H H' → Tabs T H' → Draw b' H' d l → Q (.bl true) H') : tLamCall P w K mg base 10 q T (sp_law_is_bad P w K mg base cN) E t ta σ H Q := by
  refine ⟨hT, fun c' H1 e1 T1 hc => hta _ _ ⟨hc, fun f L H3 nfL hf hL s13 out C => ?_⟩⟩
  refine ⟨f, L, _, _, part, rfl, C, hb (hid L H3) (ext_hid (f := f) e1 hL s13), p1, rfl, p2, fun c d' H4 hp hn => ?_⟩
  obtain ⟨rfl, dd, rfl, hx, kd, dr⟩ := hp
  refine ⟨rfl, dd, rfl, hx, fun H5 s5 => ?_⟩
  obtain ⟨z1, z2, z3, _⟩ := lam_back hT hd e1 T1 nfL hf hL s13 C kd dr hn s5
  exact k _ z1 z2 z3
theorem lam_caught {cJ C : Addr} (hT : Tabs T H) (hd : Draw b H d l) (hex : PySem.W.exmOne K (.ref C) (.ref cJ) = some true) (hta : ∀ (H1 : Hp) (R : List V → Hp → Prop), R [] H1 → ta σ H1 R)
    (hb : ∀ H0, ExtN H H0 → TlW (fun E' H' Q' => t E' σ H' Q') H0 (fun c d' H1 => c = .ref C ∧ d' = none ∧ Kd d l H0 H1 ∧ Draw b' H1 d l) NoV)
    (k : ∀ a H', KdN d l H H' → Tabs T H' → Draw b' H' d l → H' a = some (ErrO (.ref C) none a) → Q (.ref a) H') : tLamCall P w K mg base 10 q T (sp_law_caught P w K mg base cJ) E t ta σ H Q := by
  refine ⟨hT, fun c' H1 e1 T1 hc => hta _ _ ⟨hc, fun f L H3 nfL hf hL s13 out Cl => ?_⟩⟩
  refine ⟨f, L, _, _, NoV, rfl, Cl, hb (hid L H3) (ext_hid (f := f) e1 hL s13), fun c d' H4 hp hn => ?_, fun v H4 z => z.elim⟩
  obtain ⟨rfl, rfl, kd, dr⟩ := hp
  refine ⟨hex, fun a ha => ?_⟩
  obtain ⟨z1, z2, z3, z4⟩ := lam_back hT hd e1 T1 nfL hf hL s13 Cl kd dr hn (same_new (o := ErrO (.ref C) none a) ha)
  have aL : a ∉ L := fun z => by
    obtain ⟨o, e⟩ := Cl.allFz a z
    rw [rst_in z, e] at ha; cases ha
  have af : a ≠ f := fun z => by
    rw [rst_out aL, z] at ha
    exact z4 ha
  refine k a _ z1 z2 z3 ?_
  rw [hid_out (by intro z; rcases List.mem_cons.mp z with z | z; exact af z; exact aL z), upd_same]
end
/-- any value that is no part of the draw -/
structure AnyD (d l : Addr) (H : Hp) (x : V) : Prop where
  a : AnyV H x
  n : ∀ b, x = .ref b → b ≠ d ∧ b ≠ l
theorem AnyD.kd {d l : Addr} {H H' : Hp} {x : V} (h : AnyD d l H x) (k : KdN d l H H') : AnyD d l H' x := by
  refine ⟨?_, h.n⟩
  have n := h.n
  cases h.a with
  | non => exact .non
  | bl b => exact .bl b
  | int i => exact .int i
  | str x => exact .str x
  | lst e => exact .lst (k _ _ e (n _ rfl).1 (n _ rfl).2 fun ps z => nomatch z)
  | tup e => exact .tup (k _ _ e (n _ rfl).1 (n _ rfl).2 fun ps z => nomatch z)
theorem AnyV.extN {H H' : Hp} {x : V} (h : AnyV H x) (k : ExtN H H') : AnyV H' x := by
  cases h with
  | non => exact .non
  | bl b => exact .bl b
  | int i => exact .int i
  | str x => exact .str x
  | lst e => exact .lst (k _ _ e fun ps z => nomatch z)
  | tup e => exact .tup (k _ _ e fun ps z => nomatch z)
theorem AnyD.non {d l : Addr} {H : Hp} : AnyD d l H .non := ⟨.non, fun _ z => nomatch z⟩
theorem AnyD.bl {d l : Addr} {H : Hp} (b : Bool) : AnyD d l H (.bl b) := ⟨.bl b, fun _ z => nomatch z⟩
theorem AnyD.int {d l : Addr} {H : Hp} (i : Int) : AnyD d l H (.int i) := ⟨.int i, fun _ z => nomatch z⟩
theorem AnyD.str {d l : Addr} {H : Hp} (x : Str) : AnyD d l H (.str x) := ⟨.str x, fun _ z => nomatch z⟩
theorem AnyD.lst {d l a : Addr} {H : Hp} {xs : List V} (h : H a = some (.lst xs)) (n1 : a ≠ d) (n2 : a ≠ l) : AnyD d l H (.ref a) := ⟨.lst h, fun _ z => by cases z; exact ⟨n1, n2⟩⟩
theorem AnyD.tup {d l a : Addr} {H : Hp} {xs : List V} (h : H a = some (.tup xs)) (n1 : a ≠ d) (n2 : a ≠ l) : AnyD d l H (.ref a) := ⟨.tup h, fun _ z => by cases z; exact ⟨n1, n2⟩⟩
theorem Draw.fresh {b : Nat} {d l p : Addr} {H : Hp} (h : Draw b H d l) (n : H p = none) : p ≠ d ∧ p ≠ l := by
  obtain ⟨c, ls, cs, r, t, h1, h2, _⟩ := h.ex
  exact ⟨fun e => (by rw [e, h1] at n; cases n), fun e => (by rw [e, h2] at n; cases n)⟩
theorem cx_P {CX : CXT} {P : Program} {w : World} {K : PySem.W.Frag} {mg : Str → Option Value} {base : Heap} {N : List Str} {x : Str} {sc : Scope} {f : Addr} {cdv : Value} {A : Around} {outer : List Env} {s : Shared} {H : Hp} {E : XK} : (cxOf CX P w K mg base N x sc f cdv A outer s H E).prog = P := rfl
theorem clo_P {P : Program} {w : World} {K : PySem.W.Frag} {mg : Str → Option Value} {base : Heap} {N : List Str} {q : Str} {sc : Scope} {cl : List (Str × Addr)} {f c : Addr} {A : Around} {outer : List Env} {s : Shared} {H : Hp} {E : XK} : (cloCx P w K mg base N q sc cl A outer s H E f c).prog = P := rfl
theorem cx_W {CX : CXT} {P : Program} {w : World} {K : PySem.W.Frag} {mg : Str → Option Value} {base : Heap} {N : List Str} {x : Str} {sc : Scope} {f : Addr} {cdv : Value} {A : Around} {outer : List Env} {s : Shared} {H : Hp} {E : XK} : (cxOf CX P w K mg base N x sc f cdv A outer s H E).w = w := rfl
theorem clo_W {P : Program} {w : World} {K : PySem.W.Frag} {mg : Str → Option Value} {base : Heap} {N : List Str} {q : Str} {sc : Scope} {cl : List (Str × Addr)} {f c : Addr} {A : Around} {outer : List Env} {s : Shared} {H : Hp} {E : XK} : (cloCx P w K mg base N q sc cl A outer s H E f c).w = w := rfl
theorem cx_Mg {CX : CXT} {P : Program} {w : World} {K : PySem.W.Frag} {mg : Str → Option Value} {base : Heap} {N : List Str} {x : Str} {sc : Scope} {f : Addr} {cdv : Value} {A : Around} {outer : List Env} {s : Shared} {H : Hp} {E : XK} : (cxOf CX P w K mg base N x sc f cdv A outer s H E).mg = mg := rfl
theorem clo_Mg {P : Program} {w : World} {K : PySem.W.Frag} {mg : Str → Option Value} {base : Heap} {N : List Str} {q : Str} {sc : Scope} {cl : List (Str × Addr)} {f c : Addr} {A : Around} {outer : List Env} {s : Shared} {H : Hp} {E : XK} : (cloCx P w K mg base N q sc cl A outer s H E f c).mg = mg := rfl
theorem cx_Base {CX : CXT} {P : Program} {w : World} {K : PySem.W.Frag} {mg : Str → Option Value} {base : Heap} {N : List Str} {x : Str} {sc : Scope} {f : Addr} {cdv : Value} {A : Around} {outer : List Env} {s : Shared} {H : Hp} {E : XK} : (cxOf CX P w K mg base N x sc f cdv A outer s H E).base = base := rfl
theorem clo_Base {P : Program} {w : World} {K : PySem.W.Frag} {mg : Str → Option Value} {base : Heap} {N : List Str} {q : Str} {sc : Scope} {cl : List (Str × Addr)} {f c : Addr} {A : Around} {outer : List Env} {s : Shared} {H : Hp} {E : XK} : (cloCx P w K mg base N q sc cl A outer s H E f c).base = base := rfl
end Jud
set_option Elab.async false
set_option linter.all false
set_option maxRecDepth 100000
set_option maxHeartbeats 4000000
/-! The end of a law whose defs ask that no text is being shown (FnG), with tables of code objects. -/
namespace Jud
open PySem PySem.Spec L2 LamX
open PyProof.Rows hiding St wpAt
/-- what is tracked at the start: the tables, empty; the script, frozen, if the written part has it not -/
structure Start0 (K : PySem.W.Frag) (cs : List (Addr × Addr)) (a : Addr) (sc : Obj) (xs : List V) (H : Hp) : Prop where
  tabs : ∀ p ∈ cs, H p.2 = some (.tbl #[])
  dom : ∀ b u, H b = some u → (b ∈ cs.map (·.2) ∧ u = .tbl #[]) ∨ (b = a ∧ u = .frz sc (.lst xs) ∧ K.lookup a = none)
theorem law_callG {P : Program} {w : World} {K : PySem.W.Frag} {mg mb : Str → Option Value} {k : Nat} {fa a : Addr} {cs : List (Addr × Addr)} {fd : FuncData} {x : Str} {sp : Sp} {s : Shared} {vs : List Value} {ns : List Int}
    (KX : K.In s.heap) (hns : s.heap.Ns mainGlobals mg) (hb : s.heap.Ns builtinsNs mb) (hbb : ∀ x : Str, x ≠ "__name__" → mb x = bootBuiltins x) (hlim : s.heap.NoLimit) (hg : s.gens = #[])
    (hT : ∀ p ∈ cs, s.heap.get? p.2 = some { cls := .none, data := .fields #[] }) (nT : ∀ p ∈ cs, K.lookup p.2 = none) (hd : ∀ p ∈ cs, PySem.W.codeHdIn K p.1 p.2 = true)
    (hbm : ∃ (bm : Addr) (ob : Obj), mg "__builtins__" = some (.ref bm) ∧ bm ≠ builtinsNs ∧ s.heap.get? bm = some ob ∧ ob.cls = .type "module" ∧ ob.dict = some builtinsNs ∧ ob.data = .plain)
    (ha : s.heap.get? a = some { cls := .type "list", data := .seq vs.toArray }) (hi : IntsAre vs ns) (hl : ns.length ≤ sizeLine) (hr : Rm k callerA)
    (F : ∀ base : Heap, K.In base → base.Ns mainGlobals mg → (∀ p ∈ cs, TabB base mg p.1 p.2) → FnG P w K mg base k fa fd [x] sp) (hbind : ∀ (s : Shared) (u : Value), BindsTo s fd ⟨[u], []⟩ [(x, u)])
    (hsp : ∀ H : Hp, (∀ p ∈ cs, H p.2 = some (.tbl #[])) → SqL K H a (ns.map V.int) → sp [.ref a] H (fun v _ => v = .bl true) fun _ _ _ => False) :
    codeAny (model P w) callerA (.call (.ref fa) ⟨[.ref a], []⟩) (fun r s' => r = .ok (.ret (.bool true)) ∧ OldK s.heap s'.heap ∧ s'.os = s.os ∧ AllBare s'.gens) s := by
  have rv := vals_ints hi
  have isT : ∀ b, b ∈ cs.map (·.2) → s.heap.get? b = some { cls := .none, data := .fields #[] } := fun b hb => by
    obtain ⟨p, hp, rfl⟩ := List.mem_map.mp hb
    exact hT p hp
  have aT : a ∉ cs.map (·.2) := fun z => by
    have q := isT a z
    rw [ha] at q
    cases congrArg Obj.data (Option.some.inj q)
  have core : ∀ H : Hp, Start0 K cs a { cls := .type "list", data := .seq vs.toArray } (ns.map V.int) H → SqL K H a (ns.map V.int) →
      codeAny (model P w) callerA (.call (.ref fa) ⟨[.ref a], []⟩) (fun r s' => r = .ok (.ret (.bool true)) ∧ OldK s.heap s'.heap ∧ s'.os = s.os ∧ AllBare s'.gens) s := fun H S hS => by
    have hok : HOk P w H s.heap := fun b u e => by
      rcases S.dom b u e with ⟨h1, rfl⟩ | ⟨rfl, rfl, _⟩
      · exact isT b h1
      · exact ⟨ha, by rw [List.length_map]; exact hl, vs, _, rv, ha⟩
    -- an object that is neither the script nor a table is not tracked
    have free : ∀ b o, s.heap.get? b = some o → o ≠ { cls := .type "list", data := .seq vs.toArray } → o ≠ { cls := .none, data := .fields #[] } → H b = none := fun b o e n1 n2 => by
      cases q : H b with
      | none => rfl
      | some u =>
        rcases S.dom b u q with ⟨h1, _⟩ | ⟨h1, _, _⟩
        · rw [isT b h1] at e; cases e; exact (n2 rfl).elim
        · rw [h1, ha] at e; cases e; exact (n1 rfl).elim
    have nsK : ∀ {b : Addr} {m : Str → Option Value}, s.heap.Ns b m → (hidT s.heap H).Ns b m := fun {b m} ⟨o, es, ep, e, d, r⟩ =>
      ⟨o, es, ep, hidT_get e (free b o e (fun z => by rw [z] at d; cases d) fun z => by rw [z] at d; cases d), d, r⟩
    have hKb : K.In (hidT s.heap H) := fun b o e => hidT_get (KX b o e) (by
      cases q : H b with
      | none => rfl
      | some u =>
        rcases S.dom b u q with ⟨h1, _⟩ | ⟨h1, _, h3⟩
        · obtain ⟨p, hp, ep⟩ := List.mem_map.mp h1
          rw [← ep, nT p hp] at e; cases e
        · rw [h1, h3] at e; cases e)
    have hM : L2.Mod K mg (hidT s.heap H) := ⟨hKb, nsK hns, ⟨mb, nsK hb, hbb⟩, let ⟨mc, h1, h2⟩ := hlim; ⟨mc, nsK h1, h2⟩⟩
    have TB : ∀ p ∈ cs, TabB (hidT s.heap H) mg p.1 p.2 := fun p hp => by
      have hTp := hT p hp
      refine NdefX.tabB_of_K hKb (hd p hp) ?_ fun z => ?_
      · obtain ⟨bm, ob, b1, b2, b3, b4, b5, b6⟩ := hbm
        have nG : bm ≠ mainGlobals := fun q => by
          obtain ⟨o, es, ep, e, hdd, _⟩ := hns
          rw [q, e] at b3
          cases b3
          rw [hdd] at b6
          cases b6
        have nP : bm ≠ p.2 := fun q => by
          rw [q, hTp] at b3
          cases b3
          cases b6
        exact ⟨bm, ob, b1, b2, nG, nP, hidT_get b3 (free bm ob b3 (fun z => by rw [z] at b6; cases b6) fun z => by rw [z] at b6; cases b6), b4, b5, b6⟩
      · obtain ⟨o, es, ep, e, hdd, _⟩ := hns
        rw [z, hTp] at e
        cases e
        cases hdd
    have e0 : Env0 P w K mg (hidT s.heap H) callerA [] s H := ⟨rfl, hM, fun b o e => of_hidT e, Nat.le_of_eq (hidT_size _ _), trivial, fun b hb => absurd (show b ∈ ([] : List Addr) from hb) (by simp), hok, .of_eq hg⟩
    refine codeAny_mono ((F _ hKb (nsK hns) TB).run callerA [] s H ⟨[.ref a], []⟩ [.ref a] [.ref a] _ _ hr e0 (hbind s (.ref a)) (.cons rfl .nil) (hsp H S.tabs hS)) fun r s' h => ?_
    cases r with
    | error e =>
      obtain ⟨_, _, _, _, _, _, _, _, _, _, _, _, q⟩ := h
      exact q.elim
    | ok fl =>
      cases fl with
      | next => exact False.elim h
      | brk => exact False.elim h
      | cont => exact False.elim h
      | ret u =>
        obtain ⟨v, H', os, bare, un, hok', r', q⟩ := h
        obtain rfl : v = .bl true := q
        obtain rfl : u = Value.bool true := r'
        have grown : ∀ p ∈ cs, ∃ more : Array Value, s'.heap.get? p.2 = some { cls := .none, data := .fields more } := fun p hp => by
          obtain ⟨more, z⟩ := un.tbls p.2 #[] (S.tabs p hp)
          exact ⟨_, hok' p.2 _ z⟩
        have key : ∀ b o, b ∉ cs.map (·.2) → s.heap.get? b = some o → s'.heap.get? b = some o := fun b o nb e => by
          cases q : H b with
          | none => exact un.keep b o e q (fun z => absurd (show b ∈ ([] : List Addr) from z) (by simp)) (by simp)
          | some u =>
            rcases S.dom b u q with ⟨h1, _⟩ | ⟨_, h2, _⟩
            · exact (nb h1).elim
            · rw [h2] at q
              have z2 := un.frzs b _ _ q
              obtain ⟨e1, _⟩ := hok b _ q
              obtain ⟨e2, _⟩ := hok' b _ z2
              rw [e] at e1; cases e1
              exact e2
        refine ⟨rfl, ⟨fun b o e => ?_, fun b o e => ?_⟩, os, bare⟩
        · by_cases hb : b ∈ cs.map (·.2)
          · obtain ⟨p, hp, ep⟩ := List.mem_map.mp hb
            obtain ⟨more, hm⟩ := grown p hp
            rw [← ep] at e ⊢
            rw [hT p hp] at e
            cases e
            exact .inr (.inl ⟨((PySem.W.codeHd_of_K KX (hd p hp)).tab (hT p hp)).isCodeTable, rfl, #[], more, rfl, by rw [Array.empty_append]; exact hm⟩)
          · exact .inl (key b o hb e)
        · by_cases hb : b ∈ cs.map (·.2)
          · obtain ⟨p, hp, ep⟩ := List.mem_map.mp hb
            obtain ⟨more, hm⟩ := grown p hp
            rw [← ep]
            exact ⟨_, hm⟩
          · exact ⟨o, key b o hb e⟩
  -- the script: of the written part, or frozen
  have memT : ∀ p ∈ cs, p.2 ∈ cs.map (·.2) := fun p hp => List.mem_map.mpr ⟨p, hp, rfl⟩
  cases hk : K.lookup a with
  | some o =>
    have e := KX a o hk
    rw [ha] at e
    cases e
    refine core (fun b => if b ∈ cs.map (·.2) then some (.tbl #[]) else none) ⟨fun p hp => if_pos (memT p hp), fun b u z => ?_⟩ (.inr ⟨_, vs.toArray, _, hk, rfl, rfl, rfl, by rw [List.size_toArray, hi.length]; exact hl, by simpa using rv⟩)
    by_cases hb : b ∈ cs.map (·.2)
    · exact .inl ⟨hb, (Option.some.inj ((if_pos hb).symm.trans z)).symm⟩
    · cases (if_neg hb).symm.trans z
  | none =>
    refine core (fun b => if b = a then some (.frz { cls := .type "list", data := .seq vs.toArray } (.lst (ns.map V.int))) else if b ∈ cs.map (·.2) then some (.tbl #[]) else none)
      ⟨fun p hp => (if_neg (show ¬ p.2 = a from fun z => aT (by rw [← z]; exact memT p hp))).trans (if_pos (memT p hp)), fun b u z => ?_⟩ (.inl (.inr ⟨{ cls := .type "list", data := .seq vs.toArray }, if_pos rfl⟩))
    by_cases hb : b = a
    · exact .inr ⟨hb, (Option.some.inj ((if_pos hb).symm.trans z)).symm, hk⟩
    · have z1 := (if_neg hb).symm.trans z
      by_cases hb2 : b ∈ cs.map (·.2)
      · exact .inl ⟨hb2, (Option.some.inj ((if_pos hb2).symm.trans z1)).symm⟩
      · cases (if_neg hb2).symm.trans z1
/-- what is known of the law's promise at the head's heap h -/
def LawG (P : Program) (w : World) (K : PySem.W.Frag) (k n : Nat) (x : Str) (mg : Str → Option Value) (fa : Addr) (h : Heap) : Prop :=
  ∃ (fd : FuncData) (cs : List (Addr × Addr)) (sp : Sp), (∀ p ∈ cs, h.get? p.2 = some { cls := .none, data := .fields #[] }) ∧ (∀ p ∈ cs, K.lookup p.2 = none) ∧ (∀ p ∈ cs, PySem.W.codeHdIn K p.1 p.2 = true) ∧ (∀ (s : Shared) (u : Value), BindsTo s fd ⟨[u], []⟩ [(x, u)]) ∧
    (∀ (H : Hp) (a : Addr) (ns : List Int), ns.length ≤ n → (∀ p ∈ cs, H p.2 = some (.tbl #[])) → SqL K H a (ns.map V.int) → sp [.ref a] H (fun v _ => v = .bl true) fun _ _ _ => False) ∧
    ∀ base : Heap, K.In base → base.Ns mainGlobals mg → (∀ p ∈ cs, TabB base mg p.1 p.2) → FnG P w K mg base k fa fd [x] sp
theorem walk_G {l : PySem.W.OpenLaw} {n k : Nat} {q : Program} {loose : List Str} {XP : (Str → Option Value) → Heap → Prop} {YP : World → Heap → Prop} {d : DefRec} {x : Str}
    (hn : l.most = some n) (hn2 : n ≤ sizeLine) (hdf : d.params.defaults = []) (hr : Rm k callerA)
    (F : ∀ (w : World) (mg : Str → Option Value) (fa : Addr) (h : Heap), YP w h → h.Ns mainGlobals mg → mg d.name = some (.ref fa) → ∃ K : PySem.W.Frag, K.In h ∧ LawG l.prog w K k n x mg fa h) :
    PySem.W.WalkO q loose XP YP l.row.toRowW d [] (fun f vs => PySem.call f vs) := by
  refine Att.attach_callB hn hdf fun w s₀ s₁ mg mb fa o pm cd doc a vs ns G Y ho hd hcd hmg hobj hints hlen hbits hg => ?_
  obtain ⟨K, KX, fd, cs, sp, hT, nT, C, hb, hsp, hF⟩ := F w mg fa _ Y G.T.g hmg
  exact law_callG KX G.T.g G.T.b G.T.builtins G.T.nolimit hg hT nT C G.T.bmain hobj hints (Nat.le_trans hlen hn2) hr hF hb fun H hH hS => hsp H a ns hlen hH hS
end Jud
set_option Elab.async false
set_option linter.all false
set_option maxRecDepth 100000
set_option maxHeartbeats 4000000
/-! The head: what the top has laid, read by a Hook of one's own: defs, classes, own exceptions with an __init__, tables of code objects, further facts. -/
namespace Jud
open PySem PySem.Spec L2 LamX
open PyProof.Rows hiding St wpAt
abbrev FnI : Type := Option (Str × Str × Arguments × FuncBody × Scope × Addr × List Str × Addr)
/-- the __init__ of the class x -/
def iA (K : PySem.W.Frag) (x : Str) : Addr := He.ma K (He.ga K x) "__init__"
def fnI (K : PySem.W.Frag) (x : Str) : FnI := match K.lookup (iA K x) with
  | some ⟨_, _, .func fd, _⟩ => some (fd.name, fd.qualname, fd.params, fd.body, fd.scope, fd.globals, fd.closure.map (·.1), fd.builtins)
  | _ => none
structure EClsD where
  x : Str
  f : Str
  qual : Str
  params : Arguments
  body : List Stmt
  scope : Scope
def EClsD.val (e : EClsD) : FnI := some ("__init__", e.qual, e.params, .stmts e.body, e.scope, mainGlobals, ["__class__"], builtinsNs)
def fileB (K : PySem.W.Frag) (c : Addr) (file : Str) : Bool := match K.lookup c with
  | some ⟨_, _, .fields vs, _⟩ => (match vs[2]? with
    | some (Value.str x _) => file == x
    | _ => false)
  | _ => false
def codeB (K : PySem.W.Frag) (qual file : Str) : Value → Value → Value → Bool
  | .none, .none, .ref c => PySem.W.codeIn K (.ref c) qual && fileB K c file
  | _, _, _ => false
theorem codeB_ok {K : PySem.W.Frag} {qual file : Str} {a b c : Value} (h : codeB K qual file a b c = true) : ∃ d, a = .none ∧ b = .none ∧ c = .ref d ∧ PySem.W.codeIn K (.ref d) qual = true ∧ fileB K d file = true := by
  unfold codeB at h
  split at h
  · rw [Bool.and_eq_true] at h
    exact ⟨_, rfl, rfl, rfl, h.1, h.2⟩
  · cases h
def cellB (K : PySem.W.Frag) (C : Addr) : List (Str × Addr) → Bool
  | [(_, cc)] => (match K.lookup cc with
    | some ⟨_, _, .cell (some (.ref D)), _⟩ => decide (D = C)
    | _ => false)
  | _ => false
theorem cellB_ok {K : PySem.W.Frag} {C : Addr} {l : List (Str × Addr)} (h : cellB K C l = true) : ∃ y cc cl cld csl, l = [(y, cc)] ∧ K.lookup cc = some ⟨cl, cld, .cell (some (.ref C)), csl⟩ := by
  unfold cellB at h
  split at h
  · split at h
    · rename_i hcc
      have e := of_decide_eq_true h
      subst e
      exact ⟨_, _, _, _, _, rfl, hcc⟩
    · cases h
  · cases h
def initB (K : PySem.W.Frag) (C : Addr) (qual file : Str) (fd : FuncData) : Bool := codeB K qual file fd.defaults fd.kwdefaults fd.code && cellB K C fd.closure
def clsB (K : PySem.W.Frag) (C : Addr) : Bool := match K.lookup C with
  | some ⟨.type "type", _, .cls cd, sl⟩ => (match cd.mro, sl.toList with
    | .ref C' :: bm, [_, _, _, _, some (.builtin n), _] => decide (C' = C) && (decide (n = "ValueError.__new__") && (cd.hasDict && (!cd.hasDel && (HandSPX.refsVE bm && He.eqO (PySem.W.alongIn K "__init__" bm) (some (some (.builtin "ValueError.__init__")))))))
    | _, _ => false)
  | _ => false
def errB (K : PySem.W.Frag) (x f qual file : Str) : Bool :=
  He.eqO (PySem.W.nsIn K mainGlobals x) (some (some (.ref (He.ga K x)))) && (He.eqO (PySem.W.findIn K (.ref (He.ga K x)) "__init__") (some (some (.ref (iA K x)))) && (decide (PySem.W.typeIn K (.ref (iA K x)) = some (.type "function")) &&
  ((match K.lookup (iA K x) with
    | some ⟨_, _, .func fd, _⟩ => initB K (He.ga K x) qual file fd
    | _ => false) && (clsB K (He.ga K x) && (He.eqO (PySem.W.findIn K (.ref (He.ga K x)) "__setattr__") (some (some (.builtin "object.__setattr__"))) && (He.eqO (PySem.W.findIn K (.ref (He.ga K x)) f) (some none) &&
  (PySem.W.keepIn K (.ref (He.ga K x)) && (decide (PySem.W.subIn K (.ref (He.ga K x)) (.type "BaseException") = some true) && (decide (PySem.W.subIn K (.ref (He.ga K x)) (.type "ValueError") = some true) &&
  (decide (PySem.W.typeIn K (.ref (He.ga K x)) = some (.type "type")) && (decide (PySem.W.mroIn K (He.ga K x) (.ref (He.ga K x)) = some true) && (He.eqO (PySem.W.nsIn K PySem.cStatics "thirdparty.any") (some none) && He.eqO (PySem.W.nsIn K mainGlobals "super") (some none)))))))))))))
/-- an own exception class and its __init__ -/
theorem errC_of {P : Program} {K : PySem.W.Frag} {h : Heap} {mg : Str → Option Value} {e : EClsD} (X : K.In h) (G : h.Ns mainGlobals mg) (hb : errB K e.x e.f e.qual P.main.file = true) (hv : fnI K e.x = e.val) (nm : FldName e.f)
    (htop : (P.main.scope.names.lookup ("super" : Str)).isSome = false) (hA : ∃ (m : Str) (j : Nat) (p1 p2 a1 a2 a3 a4 a5 a6 b1 b2 b3 b4 : Pos), (a3.endLine == a5.line) = true ∧ e.params = eArgs e.f p1 p2 ∧ e.body = eBody e.f m j a1 a2 a3 a4 a5 a6 b1 b2 b3 b4 ∧ e.scope = eScope e.f) :
    ErrC P K mg e.x e.f (He.ga K e.x) := by
  unfold errB at hb
  simp only [Bool.and_eq_true, decide_eq_true_eq] at hb
  obtain ⟨h1, h2, h3, h4, h5, h6, h7, h8, h9, h10, h11, h12, h13, h14⟩ := hb
  obtain ⟨m, j, p1, p2, a1, a2, a3, a4, a5, a6, b1, b2, b3, b4, hl, e1, e2, e3⟩ := hA
  refine ⟨PySem.W.mg_of X G (He.eqO_ok h1), nm, ?_, He.eqO_ok h6, He.eqO_ok h7, h8, h9, h10, h11, h12, He.eqO_ok h13, PySem.W.mg_none_of X G (He.eqO_ok h14), htop, iA K e.x, He.eqO_ok h2, h3, ?_⟩
  · unfold clsB at h5
    split at h5
    · rename_i dd cd sl hC
      split at h5
      · rename_i C' bm k0 k1 k2 k3 n k5 hm hsl
        simp only [Bool.and_eq_true, decide_eq_true_eq, Bool.not_eq_true'] at h5
        obtain ⟨q1, q2, q3, q4, q5, q6⟩ := h5
        obtain ⟨nme, bs, mro, ns, qn, hasD, sln, subs, abs, col, hdel⟩ := cd
        simp only at hm q3 q4
        subst hm q3 q4 q1 q2
        refine ⟨nme, qn, ns, bs, bm, sln, subs, abs, col, dd, k0, k1, k2, k3, k5, ?_, q5, He.eqO_ok q6⟩
        rw [hC]
        have es : sl = #[k0, k1, k2, k3, some (.builtin "ValueError.__new__"), k5] := by
          rw [← Array.toList_inj] <;> exact hsl
        rw [es] <;> rfl
      · cases h5
    · cases h5
  · unfold fnI at hv
    cases hk : K.lookup (iA K e.x) with
    | none => rw [hk] at hv; cases hv
    | some o =>
      obtain ⟨oc, od, da, osl⟩ := o
      rw [hk] at hv h4
      cases da with
      | func fd =>
        obtain ⟨fname, fq, fps, fb, fsc, fg, fcl, fdf, fkw, fdoc, fpm, fan, fco, fct, fbl⟩ := fd
        have hv' : some (fname, fq, fps, fb, fsc, fg, fcl.map (·.1), fbl) = some (("__init__" : Str), e.qual, e.params, FuncBody.stmts e.body, e.scope, mainGlobals, [("__class__" : Str)], builtinsNs) := hv
        injection hv' with hv'
        injection hv' with v1 hv'
        injection hv' with v2 hv'
        injection hv' with v3 hv'
        injection hv' with v4 hv'
        injection hv' with v5 hv'
        injection hv' with v6 hv'
        injection hv' with v7 v8
        subst v1 v2 v3 v4 v5 v6 v8
        have h4' : initB K (He.ga K e.x) e.qual P.main.file ⟨"__init__", e.qual, e.params, .stmts e.body, e.scope, mainGlobals, fcl, fdf, fkw, fdoc, fpm, fan, fco, fct, builtinsNs⟩ = true := h4
        unfold initB at h4'
        rw [Bool.and_eq_true] at h4'
        obtain ⟨w1, w2⟩ := h4'
        obtain ⟨c, rfl, rfl, rfl, c1, c2⟩ := codeB_ok w1
        obtain ⟨y, cc, cl, cld, csl, rfl, hcc⟩ := cellB_ok w2
        have ey : y = "__class__" := (List.cons.inj v7).1
        subst ey
        unfold fileB at c2
        split at c2
        · rename_i ccl cdd vs ccs hcode
          split at c2
          · rename_i fl tf hvs
            refine ⟨oc, od, e.qual, m, fdoc, fpm, fan, c, cc, fct, osl, j, p1, p2, a1, a2, a3, a4, a5, a6, b1, b2, b3, b4, hl, ?_, c1, ⟨ccl, cdd, vs, ccs, fl, tf, hcode, hvs, c2⟩, cl, cld, csl, hcc⟩
            rw [← e1, ← e2, ← e3] <;> exact hk
          · cases c2
        · cases c2
      | _ => cases hv
/-! ### the Hook -/
def frJ (g : Addr → Option Obj) (n : Nat) : PySem.W.Frag := He.frT g (PySem.cStatics :: He.asD g n)
structure SaysJ (fa : List He.Fa) (fn : List He.DefD) (tf : List He.Defn) (es : List EClsD) (ex : PySem.W.Frag → Bool) (h : Heap) (K : PySem.W.Frag) : Prop where
  d : He.SaysD fa fn K
  more : ex K = true
  hd : ∀ p ∈ tf, PySem.W.codeHdIn K (He.cT K p).1 (He.cT K p).2 = true
  out : ∀ p ∈ tf, K.lookup (He.cT K p).2 = none
  empty : ∀ p ∈ tf, h.get? (He.cT K p).2 = some { cls := .none, data := .fields #[] }
  errs : es.map (fun e => fnI K e.x) = es.map EClsD.val
abbrev AlJ : Type := (He.AlD × Bool) × List FnI
def obsJ (n : Nat) (fa : List He.Fa) (fn : List He.DefD) (tf : List He.Defn) (es : List EClsD) (ex : PySem.W.Frag → Bool) (g : Addr → Option Obj) : AlJ :=
  ((He.obsD fa fn (frJ g n), ex (frJ g n) && He.tabsB g tf (frJ g n)), es.map fun e => fnI (frJ g n) e.x)
def valJ (fn : List He.DefD) (es : List EClsD) : AlJ := ((He.valD fn, true), es.map EClsD.val)
theorem saysJ_of {n : Nat} {fa : List He.Fa} {fn : List He.DefD} {tf : List He.Defn} {es : List EClsD} {ex : PySem.W.Frag → Bool} {h : Heap} (e : obsJ n fa fn tf es ex h.get? = valJ fn es) : SaysJ fa fn tf es ex h (frJ h.get? n) := by
  have e1 : He.obsD fa fn (frJ h.get? n) = He.valD fn := congrArg (fun z : AlJ => z.1.1) e
  have e2 : (ex (frJ h.get? n) && He.tabsB h.get? tf (frJ h.get? n)) = true := congrArg (fun z : AlJ => z.1.2) e
  have e3 : es.map (fun e => fnI (frJ h.get? n) e.x) = es.map EClsD.val := congrArg (fun z : AlJ => z.2) e
  rw [Bool.and_eq_true] at e2
  have key : ∀ p ∈ tf, PySem.W.codeHdIn (frJ h.get? n) (He.cT (frJ h.get? n) p).1 (He.cT (frJ h.get? n) p).2 = true ∧ ∃ o, h.get? (He.cT (frJ h.get? n) p).2 = some o ∧ He.emptyTab o = true := fun p hp => by
    have z := List.all_eq_true.mp e2.2 p hp
    rw [Bool.and_eq_true] at z
    refine ⟨z.1, ?_⟩
    have z2 := z.2
    cases q : h.get? (He.cT (frJ h.get? n) p).2 with
    | none => rw [q] at z2; cases z2
    | some o => rw [q] at z2; exact ⟨o, rfl, z2⟩
  exact ⟨e1, e2.1, fun p hp => (key p hp).1, fun p hp => (let ⟨_, o, q, z⟩ := key p hp; He.frT_none q z), fun p hp => (let ⟨_, o, q, z⟩ := key p hp; by rw [q, He.emptyTab_eq z]), e3⟩
def hookJ (n : Nat) (fa : List He.Fa) (fn : List He.DefD) (tf : List He.Defn) (es : List EClsD) (ex : PySem.W.Frag → Bool) : PySem.W.Hook where
  α := AlJ
  obs := fun s => obsJ n fa fn tf es ex s.heap.get?
  val := fun _ => valJ fn es
  says := fun _ h => ∃ K : PySem.W.Frag, K.In h ∧ SaysJ fa fn tf es ex h K
  of := fun _ _ e => ⟨_, He.frT_in, saysJ_of e⟩
  keeps := fun _ _ _ ⟨K, hK, c⟩ k => ⟨K, PySem.W.Frag.In.keeps hK k, ⟨c.d, c.more, c.hd, c.out, fun p hp => k _ _ (c.empty p hp), c.errs⟩⟩
theorem obsJ_eq {n : Nat} {fa : List He.Fa} {fn : List He.DefD} {tf : List He.Defn} {es : List EClsD} {ex : PySem.W.Frag → Bool} {g : Addr → Option Obj} {s : Shared} (h : ∀ a, g a = s.heap.get? a) : obsJ n fa fn tf es ex g = (hookJ n fa fn tf es ex).obs s := by
  have e : g = s.heap.get? := funext h
  rw [e] <;> rfl
/-- a def by the Hook -/
theorem at_of {K : PySem.W.Frag} {h : Heap} {mg : Str → Option Value} {x : Str} {st : Stmt} {fa : List He.Fa} {fn : List He.DefD} (X : K.In h) (G : h.Ns mainGlobals mg) (c : He.SaysD fa fn K) (i j : Nat) (hi : fa[i]? = some (.glo x)) (hj : fn[j]? = some ⟨(x, none), x, x, defArgs st, defBody st, defScope st, [], []⟩) :
    ∃ cdv, At K mg x st (He.ga K x) cdv ∧ (∃ c, cdv = .ref c ∧ He.codeOf K (x, none) = c) := by
  obtain ⟨fd, F⟩ := c.def_ j hj
  obtain ⟨oc, od, dV, kV, doc, pm, an, cdv, ct, osl, e1, lk, hcd, hdf, _⟩ := F.ex
  have hdV : dV = .none := by
    rcases hdf with ⟨_, z⟩ | ⟨z, _⟩
    · exact z
    · exact (z rfl).elim
  subst hdV e1
  obtain ⟨c0, ec⟩ := He.codeIn_ref hcd
  refine ⟨cdv, ⟨He.glo_ok X G (c.fact i hi), ⟨oc, od, kV, doc, pm, an, ct, osl, lk⟩, hcd, F.kp⟩, c0, ec, He.codeOf_eq lk ec⟩
theorem hasDef_of {K : PySem.W.Frag} {h : Heap} {mg : Str → Option Value} {x : Str} {st : Stmt} {fa : List He.Fa} {fn : List He.DefD} (X : K.In h) (G : h.Ns mainGlobals mg) (c : He.SaysD fa fn K) (i j : Nat) (hi : fa[i]? = some (.glo x)) (hj : fn[j]? = some ⟨(x, none), x, x, defArgs st, defBody st, defScope st, [], []⟩) : HasDef K mg x st := by
  obtain ⟨cdv, a, _⟩ := at_of X G c i j hi hj
  exact ⟨_, cdv, a⟩
/-- a module's tuple by a Bool -/
def gtupB (K : PySem.W.Frag) (x : Str) (vs : List He.Dv) : Bool := He.eqO (PySem.W.nsIn K mainGlobals x) (some (some (.ref (He.ga K x)))) && (He.tupB K x vs && (match K.lookup (He.ga K x) with
  | some ⟨.type "tuple", none, _, _⟩ => true
  | _ => false))
theorem gtup_of {K : PySem.W.Frag} {h : Heap} {mg : Str → Option Value} {x : Str} {vs : List He.Dv} (X : K.In h) (G : h.Ns mainGlobals mg) (hb : gtupB K x vs = true) : GTup K mg x (vs.map (He.Dv.v K)) := by
  unfold gtupB at hb
  simp only [Bool.and_eq_true] at hb
  obtain ⟨h1, h2, h3⟩ := hb
  refine ⟨He.ga K x, PySem.W.mg_of X G (He.eqO_ok h1), fun H => He.tupB_ok h2 H, fun H => .inr (.inl ⟨rfl, ?_⟩)⟩
  split at h3
  · rename_i hk
    exact ⟨_, hk, rfl, rfl⟩
  · cases h3
/-- further facts of an exception class -/
def excB (K : PySem.W.Frag) (C : Addr) : Bool := He.eqO (PySem.W.findIn K (.ref C) "__getattribute__") (some (some (.builtin "BaseException.__getattribute__"))) && (He.eqO (PySem.W.findIn K (.ref C) "__getattr__") (some none) && (decide (PySem.W.subIn K (.ref C) (.type "BaseException") = some true) && (PySem.W.hasDictIn K C &&
  (He.eqO (PySem.W.findIn K (.ref C) "__class__") (some (some (.builtin "object.__class__"))) && (He.eqO (PySem.W.specialIn K (.builtin "object.__class__") "__get__") (some (some (.builtin "getset_descriptor.__get__"))) && (decide (PySem.W.takesIn K (.builtin "object.__class__") = some true) && decide (PySem.W.mroIn K C (.type "object") = some true)))))))
theorem excC_of {K : PySem.W.Frag} {C : Addr} (h : excB K C = true) : ExcC K C ∧ XfC K C := by
  unfold excB at h
  simp only [Bool.and_eq_true, decide_eq_true_eq] at h
  obtain ⟨h1, h2, h3, h4, h5, h6, h7, h8⟩ := h
  exact ⟨⟨He.eqO_ok h1, He.eqO_ok h2, h3, h4, He.eqO_ok h5, He.eqO_ok h6, h7, h8⟩, ⟨He.eqO_ok h1, He.eqO_ok h2, h3, h4⟩⟩
end Jud
set_option Elab.async false
set_option linter.all false
set_option maxRecDepth 100000
set_option maxHeartbeats 4000000
/-! The text of the program and the law by its places; what the top has laid. -/
namespace K27
open PySem PySem.Spec L2 LamX Jud
open PyProof.Rows hiding St wpAt
def top (i : Nat) : Stmt := PySem.Challenge.pw_judgedunrun_k27_whole_counts_of_all_fiel.main.body.getD i (.Pass ⟨0, 0, 0, 0⟩)
abbrev s_is_number : Stmt := top 5
theorem sc_is_number : FnScope ["thing"] ["thing"] (defScope s_is_number) := ⟨rfl, rfl, rfl, by decide +kernel, rfl, by decide +kernel, by decide +kernel⟩
theorem bi_is_number : BindsBy "is_number" s_is_number ["thing"] := fun _ _ _ _ _ _ us hl => match us, hl with | [_], _ => rfl
abbrev s_is_between : Stmt := top 6
theorem sc_is_between : FnScope ["thing", "low", "high"] ["thing", "low", "high"] (defScope s_is_between) := ⟨rfl, rfl, rfl, by decide +kernel, rfl, by decide +kernel, by decide +kernel⟩
theorem bi_is_between : BindsBy "is_between" s_is_between ["thing", "low", "high"] := fun _ _ _ _ _ _ us hl => match us, hl with | [_, _, _], _ => rfl
abbrev s_need_between : Stmt := top 7
theorem sc_need_between : FnScope ["number", "low", "high", "part"] ["number", "low", "high", "part"] (defScope s_need_between) := ⟨rfl, rfl, rfl, by decide +kernel, rfl, by decide +kernel, by decide +kernel⟩
theorem bi_need_between : BindsBy "need_between" s_need_between ["number", "low", "high", "part"] := fun _ _ _ _ _ _ us hl => match us, hl with | [_, _, _, _], _ => rfl
abbrev s_is_field : Stmt := top 11
theorem sc_is_field : FnScope ["thing"] ["thing"] (defScope s_is_field) := ⟨rfl, rfl, rfl, by decide +kernel, rfl, by decide +kernel, by decide +kernel⟩
theorem bi_is_field : BindsBy "is_field" s_is_field ["thing"] := fun _ _ _ _ _ _ us hl => match us, hl with | [_], _ => rfl
abbrev s_need_field : Stmt := top 12
theorem sc_need_field : FnScope ["p"] ["p"] (defScope s_need_field) := ⟨rfl, rfl, rfl, by decide +kernel, rfl, by decide +kernel, by decide +kernel⟩
theorem bi_need_field : BindsBy "need_field" s_need_field ["p"] := fun _ _ _ _ _ _ us hl => match us, hl with | [_], _ => rfl
abbrev s_most_rows : Stmt := top 13
theorem sc_most_rows : FnScope ["p"] ["p"] (defScope s_most_rows) := ⟨rfl, rfl, rfl, by decide +kernel, rfl, by decide +kernel, by decide +kernel⟩
theorem bi_most_rows : BindsBy "most_rows" s_most_rows ["p"] := fun _ _ _ _ _ _ us hl => match us, hl with | [_], _ => rfl
abbrev s_sizes_of : Stmt := top 15
theorem sc_sizes_of : FnScope ["p", "found", "n"] ["p"] (defScope s_sizes_of) := ⟨rfl, rfl, rfl, by decide +kernel, rfl, by decide +kernel, by decide +kernel⟩
theorem bi_sizes_of : BindsBy "sizes_of" s_sizes_of ["p"] := fun _ _ _ _ _ _ us hl => match us, hl with | [_], _ => rfl
abbrev s_is_size : Stmt := top 16
theorem sc_is_size : FnScope ["p", "thing"] ["p", "thing"] (defScope s_is_size) := ⟨rfl, rfl, rfl, by decide +kernel, rfl, by decide +kernel, by decide +kernel⟩
theorem bi_is_size : BindsBy "is_size" s_is_size ["p", "thing"] := fun _ _ _ _ _ _ us hl => match us, hl with | [_, _], _ => rfl
abbrev s_need_size : Stmt := top 17
theorem sc_need_size : FnScope ["p", "n"] ["p", "n"] (defScope s_need_size) := ⟨rfl, rfl, rfl, by decide +kernel, rfl, by decide +kernel, by decide +kernel⟩
theorem bi_need_size : BindsBy "need_size" s_need_size ["p", "n"] := fun _ _ _ _ _ _ us hl => match us, hl with | [_, _], _ => rfl
abbrev s_rounds_of : Stmt := top 18
theorem sc_rounds_of : FnScope ["n", "told", "left"] ["n"] (defScope s_rounds_of) := ⟨rfl, rfl, rfl, by decide +kernel, rfl, by decide +kernel, by decide +kernel⟩
theorem bi_rounds_of : BindsBy "rounds_of" s_rounds_of ["n"] := fun _ _ _ _ _ _ us hl => match us, hl with | [_], _ => rfl
abbrev s_speaks : Stmt := top 19
theorem sc_speaks : FnScope ["p", "n"] ["p", "n"] (defScope s_speaks) := ⟨rfl, rfl, rfl, by decide +kernel, rfl, by decide +kernel, by decide +kernel⟩
theorem bi_speaks : BindsBy "speaks" s_speaks ["p", "n"] := fun _ _ _ _ _ _ us hl => match us, hl with | [_, _], _ => rfl
abbrev s_power_whole : Stmt := top 24
theorem sc_power_whole : FnScope ["x", "k", "told", "lap"] ["x", "k"] (defScope s_power_whole) := ⟨rfl, rfl, rfl, by decide +kernel, rfl, by decide +kernel, by decide +kernel⟩
theorem bi_power_whole : BindsBy "power_whole" s_power_whole ["x", "k"] := fun _ _ _ _ _ _ us hl => match us, hl with | [_, _], _ => rfl
abbrev s_rows_of_draws : Stmt := top 25
theorem sc_rows_of_draws : FnScope ["p", "n"] ["p", "n"] (defScope s_rows_of_draws) := ⟨rfl, rfl, rfl, by decide +kernel, rfl, by decide +kernel, by decide +kernel⟩
theorem bi_rows_of_draws : BindsBy "rows_of_draws" s_rows_of_draws ["p", "n"] := fun _ _ _ _ _ _ us hl => match us, hl with | [_, _], _ => rfl
abbrev s_draw_rows : Stmt := top 26
theorem sc_draw_rows : FnScope ["p", "n"] ["p", "n"] (defScope s_draw_rows) := ⟨rfl, rfl, rfl, by decide +kernel, rfl, by decide +kernel, by decide +kernel⟩
theorem bi_draw_rows : BindsBy "draw_rows" s_draw_rows ["p", "n"] := fun _ _ _ _ _ _ us hl => match us, hl with | [_, _], _ => rfl
abbrev s_void_most : Stmt := top 27
theorem sc_void_most : FnScope ["n"] ["n"] (defScope s_void_most) := ⟨rfl, rfl, rfl, by decide +kernel, rfl, by decide +kernel, by decide +kernel⟩
theorem bi_void_most : BindsBy "void_most" s_void_most ["n"] := fun _ _ _ _ _ _ us hl => match us, hl with | [_], _ => rfl
abbrev s_parts_told : Stmt := top 28
theorem sc_parts_told : FnScope ["p", "n", "f", "rows", "less"] ["p", "n"] (defScope s_parts_told) := ⟨rfl, rfl, rfl, by decide +kernel, rfl, by decide +kernel, by decide +kernel⟩
theorem bi_parts_told : BindsBy "parts_told" s_parts_told ["p", "n"] := fun _ _ _ _ _ _ us hl => match us, hl with | [_, _], _ => rfl
abbrev s_bound_parts : Stmt := top 29
theorem sc_bound_parts : FnScope ["p", "n"] ["p", "n"] (defScope s_bound_parts) := ⟨rfl, rfl, rfl, by decide +kernel, rfl, by decide +kernel, by decide +kernel⟩
theorem bi_bound_parts : BindsBy "bound_parts" s_bound_parts ["p", "n"] := fun _ _ _ _ _ _ us hl => match us, hl with | [_, _], _ => rfl
abbrev s_bound : Stmt := top 30
theorem sc_bound : FnScope ["p", "n"] ["p", "n"] (defScope s_bound) := ⟨rfl, rfl, rfl, by decide +kernel, rfl, by decide +kernel, by decide +kernel⟩
theorem bi_bound : BindsBy "bound" s_bound ["p", "n"] := fun _ _ _ _ _ _ us hl => match us, hl with | [_, _], _ => rfl
abbrev s_short_bound : Stmt := top 31
theorem sc_short_bound : FnScope ["p", "n", "q"] ["p", "n", "q"] (defScope s_short_bound) := ⟨rfl, rfl, rfl, by decide +kernel, rfl, by decide +kernel, by decide +kernel⟩
theorem bi_short_bound : BindsBy "short_bound" s_short_bound ["p", "n", "q"] := fun _ _ _ _ _ _ us hl => match us, hl with | [_, _, _], _ => rfl
abbrev s_logs_bound : Stmt := top 32
theorem sc_logs_bound : FnScope ["p", "n", "t"] ["p", "n", "t"] (defScope s_logs_bound) := ⟨rfl, rfl, rfl, by decide +kernel, rfl, by decide +kernel, by decide +kernel⟩
theorem bi_logs_bound : BindsBy "logs_bound" s_logs_bound ["p", "n", "t"] := fun _ _ _ _ _ _ us hl => match us, hl with | [_, _, _], _ => rfl
abbrev s_one_row_zeros : Stmt := top 33
theorem sc_one_row_zeros : FnScope ["p", "n", "f"] ["p", "n"] (defScope s_one_row_zeros) := ⟨rfl, rfl, rfl, by decide +kernel, rfl, by decide +kernel, by decide +kernel⟩
theorem bi_one_row_zeros : BindsBy "one_row_zeros" s_one_row_zeros ["p", "n"] := fun _ _ _ _ _ _ us hl => match us, hl with | [_, _], _ => rfl
abbrev s_law_begun : Stmt := top 35
theorem sc_law_begun : FnScope ["script", "large", "grain"] ["script"] (defScope s_law_begun) := ⟨rfl, rfl, rfl, by decide +kernel, rfl, by decide +kernel, by decide +kernel⟩
theorem bi_law_begun : BindsBy "_law_begun" s_law_begun ["script"] := fun _ _ _ _ _ _ us hl => match us, hl with | [_], _ => rfl
abbrev s_law_mixed : Stmt := top 36
theorem sc_law_mixed : FnScope ["draw", "turn", "blended", "prime", "blend", "grain"] ["draw"] (defScope s_law_mixed) := ⟨rfl, rfl, rfl, by decide +kernel, rfl, by decide +kernel, by decide +kernel⟩
theorem bi_law_mixed : BindsBy "_law_mixed" s_law_mixed ["draw"] := fun _ _ _ _ _ _ us hl => match us, hl with | [_], _ => rfl
abbrev s_law_take : Stmt := top 37
theorem sc_law_take : FnScope ["draw", "many", "told"] ["draw", "many"] (defScope s_law_take) := ⟨rfl, rfl, rfl, by decide +kernel, rfl, by decide +kernel, by decide +kernel⟩
theorem bi_law_take : BindsBy "_law_take" s_law_take ["draw", "many"] := fun _ _ _ _ _ _ us hl => match us, hl with | [_, _], _ => rfl
abbrev s_law_pick : Stmt := top 38
theorem sc_law_pick : FnScope ["draw", "some"] ["draw", "some"] (defScope s_law_pick) := ⟨rfl, rfl, rfl, by decide +kernel, rfl, by decide +kernel, by decide +kernel⟩
theorem bi_law_pick : BindsBy "_law_pick" s_law_pick ["draw", "some"] := fun _ _ _ _ _ _ us hl => match us, hl with | [_, _], _ => rfl
abbrev s_law_caught : Stmt := top 39
theorem sc_law_caught : FnScope ["work", "error", "caught"] ["work"] (defScope s_law_caught) := ⟨rfl, rfl, rfl, by decide +kernel, rfl, by decide +kernel, by decide +kernel⟩
theorem bi_law_caught : BindsBy "_law_caught" s_law_caught ["work"] := fun _ _ _ _ _ _ us hl => match us, hl with | [_], _ => rfl
abbrev s_law_same : Stmt := top 40
theorem sc_law_same : FnScope ["told", "due"] ["told", "due"] (defScope s_law_same) := ⟨rfl, rfl, rfl, by decide +kernel, rfl, by decide +kernel, by decide +kernel⟩
theorem bi_law_same : BindsBy "_law_same" s_law_same ["told", "due"] := fun _ _ _ _ _ _ us hl => match us, hl with | [_, _], _ => rfl
abbrev s_law_is_bad : Stmt := top 41
theorem sc_law_is_bad : FnScope ["work", "part", "error"] ["work", "part"] (defScope s_law_is_bad) := ⟨rfl, rfl, rfl, by decide +kernel, rfl, by decide +kernel, by decide +kernel⟩
theorem bi_law_is_bad : BindsBy "_law_is_bad" s_law_is_bad ["work", "part"] := fun _ _ _ _ _ _ us hl => match us, hl with | [_, _], _ => rfl
abbrev s_law_whole : Stmt := top 42
theorem sc_law_whole : FnScope ["x", "k", "found", "lap"] ["x", "k"] (defScope s_law_whole) := ⟨rfl, rfl, rfl, by decide +kernel, rfl, by decide +kernel, by decide +kernel⟩
theorem bi_law_whole : BindsBy "_law_whole" s_law_whole ["x", "k"] := fun _ _ _ _ _ _ us hl => match us, hl with | [_, _], _ => rfl
abbrev s_law_sizes_of : Stmt := top 43
theorem sc_law_sizes_of : FnScope ["p", "most", "n"] ["p"] (defScope s_law_sizes_of) := ⟨rfl, rfl, rfl, by decide +kernel, rfl, by decide +kernel, by decide +kernel⟩
theorem bi_law_sizes_of : BindsBy "_law_sizes_of" s_law_sizes_of ["p"] := fun _ _ _ _ _ _ us hl => match us, hl with | [_], _ => rfl
abbrev s_law_folds_of : Stmt := top 44
theorem sc_law_folds_of : FnScope ["n", "found", "left", "lap"] ["n"] (defScope s_law_folds_of) := ⟨rfl, rfl, rfl, by decide +kernel, rfl, by decide +kernel, by decide +kernel⟩
theorem bi_law_folds_of : BindsBy "_law_folds_of" s_law_folds_of ["n"] := fun _ _ _ _ _ _ us hl => match us, hl with | [_], _ => rfl
abbrev s_law_size_right : Stmt := top 45
theorem sc_law_size_right : FnScope ["draw", "p", "n", "f", "rows", "folds", "parts", "q", "due", "t"] ["draw", "p", "n"] (defScope s_law_size_right) := ⟨rfl, rfl, rfl, by decide +kernel, rfl, by decide +kernel, by decide +kernel⟩
theorem bi_law_size_right : BindsBy "_law_size_right" s_law_size_right ["draw", "p", "n"] := fun _ _ _ _ _ _ us hl => match us, hl with | [_, _, _], _ => rfl
abbrev s_law_refused_right : Stmt := top 46
theorem sc_law_refused_right : FnScope ["draw", "p", "n", "most", "size", "field", "q", "t", "work", "odd", "part"] ["draw", "p", "n"] (defScope s_law_refused_right) := ⟨rfl, rfl, rfl, by decide +kernel, rfl, by decide +kernel, by decide +kernel⟩
theorem bi_law_refused_right : BindsBy "_law_refused_right" s_law_refused_right ["draw", "p", "n"] := fun _ _ _ _ _ _ us hl => match us, hl with | [_, _, _], _ => rfl
abbrev s_law : Stmt := top 47
theorem sc_law : FnScope ["script", "draw", "p", "n"] ["script"] (defScope s_law) := ⟨rfl, rfl, rfl, by decide +kernel, rfl, by decide +kernel, by decide +kernel⟩
theorem bi_law : BindsBy "law" s_law ["script"] := fun _ _ _ _ _ _ us hl => match us, hl with | [_], _ => rfl
/-- an own exception class without an __init__ of its own -/
structure PlainC (K : PySem.W.Frag) (mg : Str → Option Value) (x : Str) (C : Addr) : Prop where
  gC : mg x = some (.ref C)
  xc : PySem.W.excIn K C [.type "ValueError", .type "Exception", .type "BaseException", .type "object"] "ValueError.__new__" = true
  kC : PySem.W.keepIn K (.ref C) = true
  exC : PySem.W.subIn K (.ref C) (.type "BaseException") = some true
  tyC : PySem.W.typeIn K (.ref C) = some (.type "type")
/-- the classes' addresses: JudgeError, BadNumber, BadField -/
structure Txt (P : Program) (K : PySem.W.Frag) (mg : Str → Option Value) (cJ cN cF : Addr) : Prop where
  n_isinstance : mg "isinstance" = none
  n_int : mg "int" = none
  n_bool : mg "bool" = none
  n_str : mg "str" = none
  n_len : mg "len" = none
  n_repr : mg "repr" = none
  n_sum : mg "sum" = none
  n_abs : mg "abs" = none
  n_range : mg "range" = none
  c_JudgeError : mg "JudgeError" = some (.ref cJ)
  c_BadNumber : ErrC P K mg "BadNumber" "part" cN
  c_BadField : PlainC K mg "BadField" cF
  x_BadNumber : ExcC K cN
  x_BadField : ExcC K cF
  f_BadNumber : XfC K cN
  k_FIELDS : GTup K mg "FIELDS" [.int 41, .int 97, .int 193, .int 641, .int 7681, .int 12289, .int 40961]
  k_MOST_ROWS : GTup K mg "MOST_ROWS" [.int 2, .int 8, .int 16, .int 32, .int 128, .int 1024, .int 2048]
  k_SIZES : GTup K mg "SIZES" [.int 2, .int 4, .int 8, .int 16, .int 32, .int 64, .int 128, .int 256, .int 512, .int 1024, .int 2048]
  k_MOST_PLACES : ∃ t, mg "MOST_PLACES" = some (.int 64 t)
  k_MOST_TALKS : ∃ t, mg "MOST_TALKS" = some (.int 20 t)
  e_N : PySem.W.exmOne K (.ref cN) (.ref cJ) = some true
  e_F : PySem.W.exmOne K (.ref cF) (.ref cJ) = some true
  i_NN : PySem.W.kitOne K (.ref cN) (.ref cN) = some true
  i_FF : PySem.W.kitOne K (.ref cF) (.ref cF) = some true
  t_is_number : HasDef K mg "is_number" s_is_number
  t_is_between : HasDef K mg "is_between" s_is_between
  t_need_between : HasDef K mg "need_between" s_need_between
  t_is_field : HasDef K mg "is_field" s_is_field
  t_need_field : HasDef K mg "need_field" s_need_field
  t_most_rows : HasDef K mg "most_rows" s_most_rows
  t_sizes_of : HasDef K mg "sizes_of" s_sizes_of
  t_is_size : HasDef K mg "is_size" s_is_size
  t_need_size : HasDef K mg "need_size" s_need_size
  t_rounds_of : HasDef K mg "rounds_of" s_rounds_of
  t_speaks : HasDef K mg "speaks" s_speaks
  t_power_whole : HasDef K mg "power_whole" s_power_whole
  t_rows_of_draws : HasDef K mg "rows_of_draws" s_rows_of_draws
  t_draw_rows : HasDef K mg "draw_rows" s_draw_rows
  t_void_most : HasDef K mg "void_most" s_void_most
  t_parts_told : HasDef K mg "parts_told" s_parts_told
  t_bound_parts : HasDef K mg "bound_parts" s_bound_parts
  t_bound : HasDef K mg "bound" s_bound
  t_short_bound : HasDef K mg "short_bound" s_short_bound
  t_logs_bound : HasDef K mg "logs_bound" s_logs_bound
  t_one_row_zeros : HasDef K mg "one_row_zeros" s_one_row_zeros
  t_law_begun : HasDef K mg "_law_begun" s_law_begun
  t_law_mixed : HasDef K mg "_law_mixed" s_law_mixed
  t_law_take : HasDef K mg "_law_take" s_law_take
  t_law_pick : HasDef K mg "_law_pick" s_law_pick
  t_law_caught : HasDef K mg "_law_caught" s_law_caught
  t_law_same : HasDef K mg "_law_same" s_law_same
  t_law_is_bad : HasDef K mg "_law_is_bad" s_law_is_bad
  t_law_whole : HasDef K mg "_law_whole" s_law_whole
  t_law_sizes_of : HasDef K mg "_law_sizes_of" s_law_sizes_of
  t_law_folds_of : HasDef K mg "_law_folds_of" s_law_folds_of
  t_law_size_right : HasDef K mg "_law_size_right" s_law_size_right
  t_law_refused_right : HasDef K mg "_law_refused_right" s_law_refused_right
  t_law : HasDef K mg "law" s_law
theorem cx_K {CX : CXT} {P : Program} {w : World} {K : PySem.W.Frag} {mg : Str → Option Value} {base : Heap} {N : List Str} {x : Str} {sc : Scope} {f : Addr} {cdv : Value} {A : Around} {outer : List Env} {s : Shared} {H : Hp} {E : XK} : (cxOf CX P w K mg base N x sc f cdv A outer s H E).K = K := rfl
theorem clo_K {P : Program} {w : World} {K : PySem.W.Frag} {mg : Str → Option Value} {base : Heap} {N : List Str} {q : Str} {sc : Scope} {cl : List (Str × Addr)} {f c : Addr} {A : Around} {outer : List Env} {s : Shared} {H : Hp} {E : XK} : (cloCx P w K mg base N q sc cl A outer s H E f c).K = K := rfl
/-- a module's tuple, a module's int -/
def tG (K : PySem.W.Frag) (xs : List V) : TE := fun _ H Q => ∀ a, (∀ H' : Hp, SqT K H' a xs) → (∀ H' : Hp, tyV K "tuple" (.ref a) H') → Q (.ref a) H
section
variable {X : Cx}
theorem pe_gtup {x : Str} {xs : List V} {pos : Pos} (T : GTup X.K X.mg x xs) (hg : Gl X x := by rfl) (hd : (x == ("__debug__" : Str)) = false := by decide) : PE X (.Name x pos) (tG X.K xs) := by
  obtain ⟨a, hm, hs, hty⟩ := T
  refine ⟨fun pins s σ H Q I h => (pe_glob (v := .ref a) (pos := pos) hg hm rfl hd).run pins s σ H Q I (h a hs hty)⟩
theorem pe_gint {x : Str} {i : Int} {pos : Pos} (T : ∃ t, X.mg x = some (.int i t)) (hg : Gl X x := by rfl) (hd : (x == ("__debug__" : Str)) = false := by decide) : PE X (.Name x pos) (tC (.int i)) := by
  obtain ⟨t, hm⟩ := T
  exact pe_glob hg hm ⟨t, rfl⟩ hd
theorem mk0 {x : Str} {C : Addr} {p pos : Pos} (T : PlainC X.K X.mg x C) (hg : Gl X x := by rfl) (hdb : (x == ("__debug__" : Str)) = false := by decide) : PMk X (.Call (.Name x p) [] [] pos) (fun _ H Q => Q (.ref C) none H) :=
  pmk_exc0 PySem.F.excBase_ValueError T.xc T.gC T.kC (raises_own T.exC T.tyC) hg hdb
end
end K27
set_option Elab.async false
set_option linter.all false
set_option maxRecDepth 100000
set_option maxHeartbeats 4000000
namespace K27
open PySem PySem.Spec L2 LamX Jud
open PyProof.Rows hiding St wpAt
local macro_rules | `(tactic| walk_at "rd") => `(tactic| try simp only [tSeq, tAsg, gName, tVar, tC, tOp, tUn, rI0, rI, rU, tDef, tCons, tNil, tRet, tIfS, tTest, tB, tNot, tAnd, tOr, tIf, tPar, tDrop, tNext, tAndV, tOrV, tNotV, tCB, tChain, tBM, tBM0, tTup, tLst, cx_K, clo_K, L2.start, List.map_cons, List.map_nil, List.length_cons, List.length_nil, Nat.reduceAdd, Nat.reduceSub, List.replicate_succ, List.replicate_zero, List.cons_append, List.nil_append, List.append_nil, List.set_cons_zero, List.set_cons_succ, List.getElem?_cons_zero, List.getElem?_cons_succ, Option.some.injEq, V.int.injEq, V.bl.injEq, V.str.injEq, V.ref.injEq, List.cons.injEq, exists_eq_left', exists_eq_left, exists_and_left, and_true, true_and, exists_eq', Bool.false_eq_true, if_false, if_true, decide_eq_true_eq, Bool.not_false, Bool.not_true, tMkErr, tG, tFor_r1, tFor_r2, tFor_l, tFor_t, and_assoc])
/-! The fields, the sizes: what the program's own defs tell. -/
def FL : List Int := [41, 97, 193, 641, 7681, 12289, 40961]
def RL : List Int := [2, 8, 16, 32, 128, 1024, 2048]
def SL : List Int := [2, 4, 8, 16, 32, 64, 128, 256, 512, 1024, 2048]
def mostR (p : Int) : Int := ((FL.zip RL).lookup p).getD 0
def szs (p : Int) : List Int := SL.filter fun n => decide (n ≤ mostR p)
def betw (x : V) (lo hi : Int) : Bool := match x with
  | .int i => decide (lo ≤ i) && decide (i ≤ hi)
  | _ => false
def isF (x : V) : Bool := match x with
  | .int i => FL.contains i
  | _ => false
def isSz (p : Int) (x : V) : Bool := match x with
  | .int i => (szs p).contains i
  | _ => false
def isSZ (x : V) : Bool := match x with
  | .int i => SL.contains i
  | _ => false
def sp_is_number : Sp := fun vs H Q _ => ∃ x, vs = [x] ∧ AnyV H x ∧ Q (.bl (jInt x)) H
def sp_is_between : Sp := fun vs H Q _ => ∃ x lo hi, vs = [x, .int lo, .int hi] ∧ AnyV H x ∧ Q (.bl (betw x lo hi)) H
def sp_need_between (cN : Addr) : Sp := fun vs H Q E => ∃ x lo hi y, vs = [x, .int lo, .int hi, y] ∧ AnyV H x ∧ (betw x lo hi = true → Q .non H) ∧ (betw x lo hi = false → ErrW cN "part" y H E)
def sp_is_field : Sp := fun vs H Q _ => ∃ x, vs = [x] ∧ AnyV H x ∧ Q (.bl (isF x)) H
def sp_need_field (cF : Addr) : Sp := fun vs H Q E => ∃ x, vs = [x] ∧ AnyV H x ∧ (isF x = true → Q .non H) ∧ (isF x = false → Err0 cF H E)
def sp_most_rows : Sp := fun vs H Q _ => ∃ p, vs = [.int p] ∧ p ∈ FL ∧ Q (.int (mostR p)) H
def sp_sizes_of : Sp := fun vs H Q _ => ∃ p, vs = [.int p] ∧ p ∈ FL ∧ ∀ a H', H a = none → Same H H' → H' a = some (.lst (vI (szs p))) → Q (.ref a) H'
/-- what need_size asks of p, n -/
def NeedS (cN cF : Addr) (x y : V) (H : Hp) (E : XK) (ok : Int → Int → Prop) : Prop := AnyV H x ∧ AnyV H y ∧
  (isF x = false → Err0 cF H E) ∧ ∀ p, x = .int p → p ∈ FL → (isSz p y = false → ErrW cN "part" (.str "n") H E) ∧ ∀ n, y = .int n → n ∈ szs p → ok p n
def sp_is_size (cF : Addr) : Sp := fun vs H Q E => ∃ x y, vs = [x, y] ∧ AnyV H x ∧ AnyV H y ∧ (∀ p, x = .int p → p ∈ FL → ∀ H', Same H H' → Q (.bl (isSz p y)) H') ∧ (isF x = false → Err0 cF H E)
def sp_need_size (cN cF : Addr) : Sp := fun vs H Q E => ∃ x y, vs = [x, y] ∧ NeedS cN cF x y H E fun _ _ => ValW .non H Q
def rnd (n : Int) : Int := 1 + (Nat.log2 n.toNat : Nat)
def sp_rounds_of : Sp := fun vs H Q _ => ∃ n, vs = [.int n] ∧ 1 ≤ n ∧ Q (.int (rnd n)) H
def spk (p n : Int) : Bool := decide (66 * n + 30 + rnd n < p)
def sp_speaks (cN cF : Addr) : Sp := fun vs H Q E => ∃ x y, vs = [x, y] ∧ NeedS cN cF x y H E fun p n => ValW (.bl (spk p n)) H Q
def sp_power_whole : Sp := fun vs H Q _ => ∃ x k, vs = [.int x, .int k] ∧ x.natAbs < 2 ^ 1000 ∧ (0 ≤ k ∧ k ≤ 500) ∧ Q (.int (x ^ k.toNat)) H
def rowsD (p n : Int) : Int := p ^ (4 + rnd n).toNat
def sp_rows_of_draws : Sp := fun vs H Q _ => ∃ p n, vs = [.int p, .int n] ∧ p ∈ FL ∧ n ∈ szs p ∧ Q (.int (rowsD p n)) H
def sp_draw_rows (cN cF : Addr) : Sp := fun vs H Q E => ∃ x y, vs = [x, y] ∧ NeedS cN cF x y H E fun p n => ValW (.int (rowsD p n)) H Q
def sp_void_most (cN : Addr) : Sp := fun vs H Q E => ∃ x, vs = [x] ∧ AnyV H x ∧ (isSZ x = false → ErrW cN "part" (.str "n") H E) ∧ ∀ n, x = .int n → n ∈ SL → Q (.int (17 * n + 3)) H
def prts (p n : Int) : List Int := [(49 * n - 1) * (rowsD p n / p), 28 * (rowsD p n / p), rowsD p n - p ^ 4 * (p - 1) ^ (rnd n).toNat]
def sp_parts_told : Sp := fun vs H Q _ => ∃ p n, vs = [.int p, .int n] ∧ p ∈ FL ∧ n ∈ szs p ∧ TupW (vI (prts p n)) H Q
def sp_bound_parts (cN cF : Addr) : Sp := fun vs H Q E => ∃ x y, vs = [x, y] ∧ NeedS cN cF x y H E fun p n => TupW (vI (prts p n)) H Q
def bnd (p n : Int) : Int := (prts p n).sum
def sp_bound (cN cF : Addr) : Sp := fun vs H Q E => ∃ x y, vs = [x, y] ∧ NeedS cN cF x y H E fun p n => ValW (.int (bnd p n)) H Q
def shortB (p n q : Int) : Int := bnd p n * (4 * n) ^ q.toNat + rowsD p n * (3 * n - 1) ^ q.toNat
def sp_short_bound (cN cF : Addr) : Sp := fun vs H Q E => ∃ x y q, vs = [x, y, q] ∧ AnyV H q ∧ NeedS cN cF x y H E fun p n => (betw q 1 64 = false → ErrW cN "part" (.str "q") H E) ∧ ∀ i, q = .int i → 1 ≤ i → i ≤ 64 → ValW (.int (shortB p n i)) H Q
def logsB (p n t : Int) : Int := if t > 0 then t * bnd p n * rowsD p n ^ (t - 1).toNat else 0
def sp_logs_bound (cN cF : Addr) : Sp := fun vs H Q E => ∃ x y t, vs = [x, y, t] ∧ AnyV H t ∧ NeedS cN cF x y H E fun p n => (betw t 0 20 = false → ErrW cN "part" (.str "t") H E) ∧ ∀ i, t = .int i → 0 ≤ i → i ≤ 20 → ValW (.int (logsB p n i)) H Q
def oneR (p n : Int) : Int := p ^ (rnd n).toNat - (p - 1) ^ (rnd n).toNat
def sp_one_row_zeros (cN cF : Addr) : Sp := fun vs H Q E => ∃ x y, vs = [x, y] ∧ NeedS cN cF x y H E fun p n => ValW (.int (oneR p n)) H Q
section
variable {P : Program} {w : World} {K : PySem.W.Frag} {mg : Str → Option Value} {base : Heap} {cJ cN cF : Addr}
theorem betw_int {x : V} {lo hi : Int} (h : betw x lo hi = true) : ∃ i, x = .int i := by
  cases x <;> simp [betw] at h
  exact ⟨_, rfl⟩
theorem isF_betw {x : V} (h : betw x 41 40961 = false) : isF x = false := by
  cases x <;> simp only [isF] <;> simp only [betw] at h
  rename_i i
  cases e : FL.contains i
  · rfl
  · have : i ∈ FL := by simpa using e
    simp only [FL, List.mem_cons, List.not_mem_nil, or_false] at this
    rcases this with rfl | rfl | rfl | rfl | rfl | rfl | rfl <;> cases h
theorem most_row (p : Int) (hp : p ∈ FL) : ∃ j : Nat, FL[j]? = some p ∧ (∀ m, m < j → FL[m]? ≠ some p) ∧ True ∧ atI [V.int 2, V.int 8, V.int 16, V.int 32, V.int 128, V.int 1024, V.int 2048] (j : Int) = some (.int (mostR p)) := by
  simp only [FL, List.mem_cons, List.not_mem_nil, or_false] at hp
  rcases hp with rfl | rfl | rfl | rfl | rfl | rfl | rfl
  · exact ⟨0, rfl, by decide, trivial, rfl⟩
  · exact ⟨1, rfl, by decide, trivial, rfl⟩
  · exact ⟨2, rfl, by decide, trivial, rfl⟩
  · exact ⟨3, rfl, by decide, trivial, rfl⟩
  · exact ⟨4, rfl, by decide, trivial, rfl⟩
  · exact ⟨5, rfl, by decide, trivial, rfl⟩
  · exact ⟨6, rfl, by decide, trivial, rfl⟩
theorem szs_at : ∀ p ∈ FL, ∀ j, j ≤ (szs p).length → ((2 : Int) ^ (j + 1) ≤ mostR p → j + 1 ≤ (szs p).length ∧ (szs p).take (j + 1) = (szs p).take j ++ [2 ^ (j + 1)]) ∧ (¬ (2 : Int) ^ (j + 1) ≤ mostR p → (szs p).take j = szs p) ∧ (szs p).length < sizeLine := by decide +kernel
theorem mostR_le : ∀ p ∈ FL, mostR p ≤ 2048 := by decide +kernel
theorem szs_len : ∀ p ∈ FL, (szs p).length ≤ 11 := by decide +kernel
theorem szs_facts : ∀ p ∈ FL, ∀ n ∈ szs p, CMulW 66 n ∧ 1 ≤ n ∧ (0 ≤ 4 + rnd n ∧ 4 + rnd n ≤ 500) ∧ p.natAbs < 2 ^ 1000 ∧ 0 < p := by decide +kernel
theorem isF_int {x : V} (h : isF x = true) : ∃ p, x = .int p ∧ p ∈ FL := by
  cases x <;> simp [isF] at h
  exact ⟨_, rfl, h⟩
theorem isSz_int {p : Int} {x : V} (h : isSz p x = true) : ∃ n, x = .int n ∧ n ∈ szs p := by
  cases x <;> simp [isSz] at h
  exact ⟨_, rfl, h⟩
theorem szs_betw : ∀ p ∈ FL, ∀ n ∈ szs p, 2 ≤ n ∧ n ≤ mostR p := by decide +kernel
theorem isSz_betw {p : Int} {x : V} (hp : p ∈ FL) (h : betw x 2 (mostR p) = false) : isSz p x = false := by
  cases x <;> simp only [isSz] <;> simp only [betw] at h
  rename_i i
  cases e : (szs p).contains i
  · rfl
  · have z := szs_betw p hp i (by simpa using e)
    simp [z.1, z.2] at h
theorem prt_facts : ∀ p ∈ FL, ∀ n ∈ szs p, CDivW (rowsD p n) p ∧ CMulW 49 n ∧ CMulW (49 * n - 1) (rowsD p n / p) ∧ CMulW 28 (rowsD p n / p) ∧ (p - 1).natAbs < 2 ^ 1000 ∧ (0 ≤ rnd n ∧ rnd n ≤ 500) ∧ CMulW (p ^ (4 : Int).toNat) ((p - 1) ^ (rnd n).toNat) ∧ True := by decide +kernel
theorem pow_bits {x b : Nat} (hx : x < 2 ^ b) (i : Nat) : x ^ i < 2 ^ (b * i + 1) := by
  have h1 : x ^ i ≤ (2 ^ b) ^ i := Nat.pow_le_pow_left (Nat.le_of_lt hx) i
  rw [← Nat.pow_mul] at h1
  exact Nat.lt_of_le_of_lt h1 (Nat.pow_lt_pow_right (by decide) (by omega))
theorem rows_fact : ∀ p ∈ FL, ∀ n ∈ szs p, (rowsD p n).natAbs < 2 ^ 1000 := by decide +kernel
theorem short_facts : ∀ p ∈ FL, ∀ n ∈ szs p, CMulW 4 n ∧ (4 * n).natAbs < 2 ^ 1000 ∧ CMulW 3 n ∧ (3 * n - 1).natAbs < 2 ^ 1000 := by decide +kernel
theorem short_muls0 : ∀ p ∈ FL, ∀ n ∈ szs p, ∀ q ∈ List.range 65, CMulW (prts p n).sum ((4 * n) ^ q) ∧ CMulW (rowsD p n) ((3 * n - 1) ^ q) := by decide +kernel
theorem short_muls (p : Int) (hp : p ∈ FL) (n : Int) (hn : n ∈ szs p) (q : Nat) (h1 : 1 ≤ q) (h2 : q ≤ 64) : CMulW (prts p n).sum ((4 * n) ^ q) ∧ CMulW (rowsD p n) ((3 * n - 1) ^ q) := short_muls0 p hp n hn q (List.mem_range.mpr (by omega))
theorem logs_muls0 : ∀ p ∈ FL, ∀ n ∈ szs p, ∀ t ∈ List.range 21, CMulW (t : Int) (prts p n).sum ∧ CMulW ((t : Int) * (prts p n).sum) (rowsD p n ^ ((t : Int) - 1).toNat) := by decide +kernel
theorem logs_muls (p : Int) (hp : p ∈ FL) (n : Int) (hn : n ∈ szs p) (t : Nat) (h2 : t ≤ 20) : CMulW (t : Int) (prts p n).sum ∧ CMulW ((t : Int) * (prts p n).sum) (rowsD p n ^ ((t : Int) - 1).toNat) := logs_muls0 p hp n hn t (List.mem_range.mpr (by omega))
theorem SL_fact : ∀ n ∈ SL, CMulW 17 n := by decide +kernel
theorem isSZ_betw {x : V} (h : betw x 2 2048 = false) : isSZ x = false := by
  cases x <;> simp only [isSZ] <;> simp only [betw] at h
  rename_i i
  cases e : SL.contains i
  · rfl
  · have z : ∀ i ∈ SL, (decide (2 ≤ i) && decide (i ≤ 2048)) = true := by decide +kernel
    rw [z i (by simpa using e)] at h
    cases h
theorem d_is_number (T : Txt P K mg cJ cN cF) : Def P w K mg base 1 "is_number" ["thing"] sp_is_number := by
  refine Def.of T.t_is_number bi_is_number sc_is_number (fun vs H Q E h => ?_) (fun f cdv A outer s H vs Q E at_ hr h => ?_)
  · obtain ⟨x, rfl, a, k⟩ := h
    rfl
  · obtain ⟨x, rfl, a, k⟩ := h
    have hu := hu_of hr.room
    refine ⟨_, (pss_one (ps_ret (pe_and (pe_callB call_isi rfl T.n_isinstance boot_isinstance (pa_cons (pv 0) (pa_cons (pe_bltn (v := .ty "int") (u := .type "int") rfl T.n_int boot_int rfl) pa_nil))) (pe_one (pe_not (pe_callB call_isi rfl T.n_isinstance boot_isinstance (pa_cons (pv 0) (pa_cons (pe_bltn (v := .ty "bool") (u := .type "bool") rfl T.n_bool boot_bool rfl) pa_nil)))))))), ?_⟩
    walk_at "rd"
    obtain ⟨n, h1, h2, h3⟩ := a.kind (K := K)
    refine ⟨x, .ty "int", .type n, .type "int", _, rfl, .ty _, h1, h2, ?_⟩
    cases hx : jInt x <;> cases hb : jBl x <;> simp only [Bool.or_false, Bool.or_true, Bool.true_or, Bool.false_or, Bool.false_eq_true, if_false, if_true, V.bl.injEq, exists_eq_left'] <;> rw [hx] at k
    · exact k
    · refine ⟨x, .ty "bool", .type n, .type "bool", _, rfl, .ty _, h1, h3, ?_⟩
      rw [hb]
      exact ⟨_, rfl, k⟩
    · refine ⟨x, .ty "bool", .type n, .type "bool", _, rfl, .ty _, h1, h3, ?_⟩
      rw [hb]
      exact ⟨_, rfl, k⟩
    · cases x <;> simp_all [jInt, jBl]

theorem d_is_between (T : Txt P K mg cJ cN cF) : Def P w K mg base 2 "is_between" ["thing", "low", "high"] sp_is_between := by
  refine Def.of T.t_is_between bi_is_between sc_is_between (fun vs H Q E h => ?_) (fun f cdv A outer s H vs Q E at_ hr h => ?_)
  · obtain ⟨x, lo, hi, rfl, a, k⟩ := h
    rfl
  · obtain ⟨x, lo, hi, rfl, a, k⟩ := h
    have hu := hu_of hr.room
    refine ⟨_, (pss_one (ps_ret (pe_and (pe_def (d_is_number T) (hr.mono (by decide)) p0 (pa_cons (pv 0) pa_nil)) (pe_one (pe_chain op_le op_le (pv 1) (pv 0) (pv 2)))))), ?_⟩
    walk_at "rd"
    refine ⟨x, rfl, a, ?_⟩
    walk_at "rd"
    cases x <;> simp only [jInt, betw] at k ⊢ <;> walk_at "rd" <;> try exact k
    rename_i i
    by_cases h : lo ≤ i <;> simp only [h, decide_true, decide_false, Bool.true_and, Bool.false_and, if_true, if_false] at k ⊢ <;> walk_at "rd" <;> exact k

theorem d_need_between (T : Txt P K mg cJ cN cF) : Def P w K mg base 3 "need_between" ["number", "low", "high", "part"] (sp_need_between cN) := by
  refine Def.of T.t_need_between bi_need_between sc_need_between (fun vs H Q E h => ?_) (fun f cdv A outer s H vs Q E at_ hr h => ?_)
  · obtain ⟨x, lo, hi, y, rfl, a, k1, k2⟩ := h
    rfl
  · obtain ⟨x, lo, hi, y, rfl, a, k1, k2⟩ := h
    have hu := hu_of hr.room
    refine ⟨_, (pss_one (ps_if (pt_not (pt_val (pe_def (d_is_between T) (hr.mono (by decide)) p0 (pa_cons (pv 0) (pa_cons (pv 1) (pa_cons (pv 2) pa_nil))))))
       (pss_one (ps_raise rfl tkx (pmk_err T.c_BadNumber hr.room (pa_cons (pv 3) pa_nil))))
       pss_nil)), ?_⟩
    walk_at "rd"
    refine ⟨x, lo, hi, rfl, a, ?_⟩
    walk_at "rd"
    cases h : betw x lo hi
    · walk_at "rd"
      exact fun d hd => errW_new (k2 h) hd
    · walk_at "rd"
      exact k1 h

theorem d_is_field (T : Txt P K mg cJ cN cF) : Def P w K mg base 3 "is_field" ["thing"] sp_is_field := by
  refine Def.of T.t_is_field bi_is_field sc_is_field (fun vs H Q E h => ?_) (fun f cdv A outer s H vs Q E at_ hr h => ?_)
  · obtain ⟨x, rfl, a, k⟩ := h
    rfl
  · obtain ⟨x, rfl, a, k⟩ := h
    have hu := hu_of hr.room
    refine ⟨_, (pss_one (ps_ret (pe_and (pe_def (d_is_between T) (hr.mono (by decide)) p0 (pa_cons (pv 0) (pa_cons (pe_ix ix_seq (pe_gtup T.k_FIELDS) pe_int (fun _ _ => rfl)) (pa_cons (pe_ix ix_seq (pe_gtup T.k_FIELDS) (pe_un un_neg pe_int) (fun _ _ => rfl)) pa_nil)))) (pe_one (pe_cmpR op_in_seq (pv 0) (pe_gtup T.k_FIELDS) (by rfl)))))), ?_⟩
    walk_at "rd"
    intro t ht _
    refine sqt_ix (ht _) (i := 0) rfl ?_
    intro t2 ht2 _
    walk_at "rd"
    refine sqt_ix (ht2 _) (i := -1) rfl ?_
    refine ⟨x, 41, 40961, rfl, a, ?_⟩
    walk_at "rd"
    cases hb : betw x 41 40961
    · walk_at "rd"
      rw [isF_betw hb] at k
      exact k
    · walk_at "rd"
      intro t3 ht3 _
      obtain ⟨i, rfl⟩ := betw_int hb
      refine ⟨_, _, rfl, Or.inr (ht3 _), rfl, rfl, ?_⟩
      have e := inV_ints i FL
      simp only [FL, List.map_cons, List.map_nil] at e
      rw [if_neg (by decide), e]
      exact k

theorem d_need_field (T : Txt P K mg cJ cN cF) : Def P w K mg base 4 "need_field" ["p"] (sp_need_field cF) := by
  refine Def.of T.t_need_field bi_need_field sc_need_field (fun vs H Q E h => ?_) (fun f cdv A outer s H vs Q E at_ hr h => ?_)
  · obtain ⟨x, rfl, a, k1, k2⟩ := h
    rfl
  · obtain ⟨x, rfl, a, k1, k2⟩ := h
    have hu := hu_of hr.room
    refine ⟨_, (pss_one (ps_if (pt_not (pt_val (pe_def (d_is_field T) (hr.mono (by decide)) p0 (pa_cons (pv 0) pa_nil))))
       (pss_one (ps_raise rfl tkx (mk0 T.c_BadField)))
       pss_nil)), ?_⟩
    walk_at "rd"
    refine ⟨x, rfl, a, ?_⟩
    cases h : isF x
    · walk_at "rd"
      exact (k2 h).now
    · walk_at "rd"
      exact k1 h

theorem d_most_rows (T : Txt P K mg cJ cN cF) : Def P w K mg base 1 "most_rows" ["p"] sp_most_rows := by
  refine Def.of T.t_most_rows bi_most_rows sc_most_rows (fun vs H Q E h => ?_) (fun f cdv A outer s H vs Q E at_ hr h => ?_)
  · obtain ⟨p, rfl, hp, k⟩ := h
    rfl
  · obtain ⟨p, rfl, hp, k⟩ := h
    have hu := hu_of hr.room
    refine ⟨_, (pss_one (ps_ret (pe_ix ix_seq (pe_gtup T.k_MOST_ROWS) (pe_bm PySem.F.plainAttrs_tuple PySem.F.slot_tuple_index PySem.F.type_tuple_index mt_tindex (pe_gtup T.k_FIELDS) (pa_cons (pv 0) pa_nil)) (fun _ _ => rfl)))), ?_⟩
    walk_at "rd"
    intro t ht _ t2 ht2 ty2
    refine ⟨ty2 _, ?_⟩
    obtain ⟨j, h1, h2, h3, h4⟩ := most_row p hp
    refine ⟨t2, FL, p, j, rfl, rfl, ht2 _, h1, h2, ?_⟩
    refine sqt_ix (ht _) h4 k

theorem d_sizes_of (T : Txt P K mg cJ cN cF) : Def P w K mg base 2 "sizes_of" ["p"] sp_sizes_of := by
  refine Def.of T.t_sizes_of bi_sizes_of sc_sizes_of (fun vs H Q E h => ?_) (fun f cdv A outer s H vs Q E at_ hr h => ?_)
  · obtain ⟨p, rfl, hp, k⟩ := h
    rfl
  · obtain ⟨p, rfl, hp, k⟩ := h
    have hu := hu_of hr.room
    refine ⟨_, (pss_cons (ps_par (i := 1) (j := 2) (by rfl) sc_sizes_of.nd rfl rfl (by decide) rfl rfl (pa_cons (pe_lst pa_nil) (pa_cons pe_int pa_nil)) (by rfl))
       (pss_cons (ps_while (passes_of rfl) (pt_cmpR op_le (pv 2) (pe_def (d_most_rows T) (hr.mono (by decide)) p0 (pa_cons (pv 0) pa_nil)) (nomark _))
       (pss_cons (ps_expr (pe_bm PySem.F.plainAttrs_list PySem.F.slot_list_append PySem.F.type_list_append mt_append (pv 1) (pa_cons (pv 2) pa_nil)))
       (pss_one (ps_set (i := 2) sc_sizes_of.nd rfl (Or.inl rfl) (pe_op op_mulW pe_int (pv 2))))))
       (pss_one (ps_ret (pv 1))))), ?_⟩
    walk_at "rd"
    refine ⟨by decide, fun l hl => ⟨fun m σ H' => ∃ j : Nat, j ≤ (szs p).length ∧ m = 12 - j ∧ H' = upd H l (.lst (vI ((szs p).take j))) ∧ σ = [some (.int p), some (.ref l), some (.int (2 ^ (j + 1)))], ⟨_, 0, Nat.zero_le _, rfl, ?_, rfl⟩, ?_⟩⟩
    · simp [vI]
    · rintro m σ H' ⟨j, hj, rfl, rfl, rfl⟩
      walk_at "rd"
      refine ⟨p, rfl, hp, ?_⟩
      walk_at "rd"
      obtain ⟨h1, h2, h3⟩ := szs_at p hp j hj
      by_cases h : (2 : Int) ^ (j + 1) ≤ mostR p
      · rw [if_pos h]
        obtain ⟨hj1, hj2⟩ := h1 h
        refine ⟨fun σ' H' => ∃ m', m' < 12 - j ∧ (∃ j' : Nat, j' ≤ (szs p).length ∧ m' = 12 - j' ∧ H' = upd H l (.lst (vI ((szs p).take j'))) ∧ σ' = [some (.int p), some (.ref l), some (.int (2 ^ (j' + 1)))]), fun _ _ z => z, ?_⟩
        refine ⟨Or.inl ⟨rfl, _, Or.inl (Or.inl upd_same)⟩, l, _, _, rfl, rfl, upd_same, ?_, ?_⟩
        · simp [vI]
          exact Nat.lt_of_le_of_lt (Nat.min_le_left _ _) (Nat.lt_of_le_of_lt hj h3)
        · walk_at "rd"
          refine ⟨?_, ?_⟩
          · show CMulW _ _
            refine wide_mul (a := 2) (b := 20) (by decide) ?_ (by decide) (by decide) (by decide)
            have : mostR p ≤ 2048 := mostR_le p hp
            have h0 : (0 : Int) < 2 ^ (j + 1) := Int.pow_pos (by decide)
            omega
          · refine ⟨12 - (j + 1), by have := szs_len p hp; omega, j + 1, hj1, rfl, ?_, ?_⟩
            · rw [upd_upd, hj2]
              simp [vI]
            · rw [Int.pow_succ 2 (j + 1), Int.mul_comm]
      · rw [if_neg h]
        walk_at "rd"
        rw [h2 h]
        exact k _ _ hl (same_new hl) upd_same

theorem d_is_size (T : Txt P K mg cJ cN cF) : Def P w K mg base 5 "is_size" ["p", "thing"] (sp_is_size cF) := by
  refine Def.of T.t_is_size bi_is_size sc_is_size (fun vs H Q E h => ?_) (fun f cdv A outer s H vs Q E at_ hr h => ?_)
  · obtain ⟨x, y, rfl, ax, ay, k1, k2⟩ := h
    rfl
  · obtain ⟨x, y, rfl, ax, ay, k1, k2⟩ := h
    have hu := hu_of hr.room
    refine ⟨_, (pss_cons (ps_expr (pe_def (d_need_field T) (hr.mono (by decide)) px (pa_cons (pv 0) pa_nil)))
       (pss_one (ps_ret (pe_and (pe_def (d_is_between T) (hr.mono (by decide)) p0 (pa_cons (pv 1) (pa_cons pe_int (pa_cons (pe_def (d_most_rows T) (hr.mono (by decide)) p0 (pa_cons (pv 0) pa_nil)) pa_nil)))) (pe_one (pe_cmpR op_in_seq (pv 1) (pe_def (d_sizes_of T) (hr.mono (by decide)) p0 (pa_cons (pv 0) pa_nil)) (by rfl))))))), ?_⟩
    walk_at "rd"
    refine ⟨x, rfl, ax, fun hx => ?_, k2⟩
    walk_at "rd"
    obtain ⟨p, rfl, hp⟩ := isF_int hx
    refine ⟨p, rfl, hp, y, 2, mostR p, rfl, ay, ?_⟩
    walk_at "rd"
    cases hb : betw y 2 (mostR p)
    · walk_at "rd"
      have z := k1 p rfl hp H fun _ _ e => e
      rw [isSz_betw hp hb] at z
      exact z
    · walk_at "rd"
      refine ⟨p, rfl, hp, fun a H' ha se hl => ?_⟩
      obtain ⟨i, rfl⟩ := betw_int hb
      refine ⟨_, _, rfl, Or.inl (Or.inl (Or.inl hl)), rfl, flat_ints _, ?_⟩
      rw [if_neg (by decide), vI, inV_ints]
      exact k1 p rfl hp H' se

theorem d_need_size (T : Txt P K mg cJ cN cF) : Def P w K mg base 6 "need_size" ["p", "n"] (sp_need_size cN cF) := by
  refine Def.of T.t_need_size bi_need_size sc_need_size (fun vs H Q E h => ?_) (fun f cdv A outer s H vs Q E at_ hr h => ?_)
  · obtain ⟨x, y, rfl, ax, ay, k1, k2⟩ := h
    rfl
  · obtain ⟨x, y, rfl, ax, ay, k1, k2⟩ := h
    have hu := hu_of hr.room
    refine ⟨_, (pss_one (ps_if (pt_not (pt_val (pe_def (d_is_size T) (hr.mono (by decide)) px (pa_cons (pv 0) (pa_cons (pv 1) pa_nil)))))
       (pss_one (ps_raise rfl tkx (pmk_err T.c_BadNumber hr.room (pa_cons pe_str pa_nil))))
       pss_nil)), ?_⟩
    walk_at "rd"
    refine ⟨x, y, rfl, ax, ay, fun p hx hp H' se => ?_, k1⟩
    walk_at "rd"
    obtain ⟨h1, h2⟩ := k2 p hx hp
    cases h : isSz p y
    · walk_at "rd"
      exact fun d hd => errW_new ((h1 h).same se) hd
    · walk_at "rd"
      obtain ⟨n, rfl, hn⟩ := isSz_int h
      exact h2 n rfl hn _ se

theorem d_rounds_of (T : Txt P K mg cJ cN cF) : Def P w K mg base 1 "rounds_of" ["n"] sp_rounds_of := by
  refine Def.of T.t_rounds_of bi_rounds_of sc_rounds_of (fun vs H Q E h => ?_) (fun f cdv A outer s H vs Q E at_ hr h => ?_)
  · obtain ⟨n, rfl, hn, k⟩ := h
    rfl
  · obtain ⟨n, rfl, hn, k⟩ := h
    have hu := hu_of hr.room
    refine ⟨_, (pss_cons (ps_par (i := 1) (j := 2) (by rfl) sc_rounds_of.nd rfl rfl (by decide) rfl rfl (pa_cons pe_int (pa_cons (pv 0) pa_nil)) (by rfl))
       (pss_cons (ps_while (passes_of rfl) (pt_cmpR op_gt (pv 2) pe_int (nomark _))
       (pss_one (ps_par (i := 1) (j := 2) (by rfl) sc_rounds_of.nd rfl rfl (by decide) rfl rfl (pa_cons (pe_op op_add (pv 1) pe_int) (pa_cons (pe_op op_fdivW (pv 2) pe_int) pa_nil)) (by rfl))))
       (pss_one (ps_ret (pv 1))))), ?_⟩
    walk_at "rd"
    refine ⟨fun m σ H' => ∃ (t l : Int), 1 ≤ l ∧ H' = H ∧ σ = [some (.int n), some (.int t), some (.int l)] ∧ m = l.toNat ∧ t + (Nat.log2 l.toNat : Nat) = rnd n, ⟨_, 1, n, hn, rfl, rfl, rfl, rfl⟩, ?_⟩
    rintro m σ H' ⟨t, l, hl, rfl, rfl, rfl, ht⟩
    walk_at "rd"
    by_cases h : 1 < l
    · rw [if_pos h]
      refine ⟨fun σ' H'' => ∃ m', m' < l.toNat ∧ (∃ (t l : Int), 1 ≤ l ∧ H'' = H' ∧ σ' = [some (.int n), some (.int t), some (.int l)] ∧ m' = l.toNat ∧ t + (Nat.log2 l.toNat : Nat) = rnd n), fun _ _ z => z, ?_⟩
      refine ⟨⟨by decide, by decide⟩, (l / 2).toNat, by omega, t + 1, l / 2, by omega, rfl, rfl, rfl, ?_⟩
      have e : (l / 2).toNat = l.toNat / 2 := by omega
      have e2 : Nat.log2 l.toNat = Nat.log2 (l.toNat / 2) + 1 := by
        rw [Nat.log2_def, if_pos (by omega)]
      rw [e]
      omega
    · rw [if_neg h]
      walk_at "rd"
      have e : l = 1 := by omega
      subst e
      have e3 : t = rnd n := by
        rw [← ht]
        have : Nat.log2 (1 : Int).toNat = 0 := by decide
        omega
      rw [e3]
      exact k

theorem d_speaks (T : Txt P K mg cJ cN cF) : Def P w K mg base 7 "speaks" ["p", "n"] (sp_speaks cN cF) := by
  refine Def.of T.t_speaks bi_speaks sc_speaks (fun vs H Q E h => ?_) (fun f cdv A outer s H vs Q E at_ hr h => ?_)
  · obtain ⟨x, y, rfl, ax, ay, k1, k2⟩ := h
    rfl
  · obtain ⟨x, y, rfl, ax, ay, k1, k2⟩ := h
    have hu := hu_of hr.room
    refine ⟨_, (pss_cons (ps_expr (pe_def (d_need_size T) (hr.mono (by decide)) px (pa_cons (pv 0) (pa_cons (pv 1) pa_nil))))
       (pss_one (ps_ret (pe_cmpR op_lt (pe_op op_add (pe_op op_add (pe_op op_mulW pe_int (pv 1)) pe_int) (pe_def (d_rounds_of T) (hr.mono (by decide)) p0 (pa_cons (pv 1) pa_nil))) (pv 0) (nomark _))))), ?_⟩
    walk_at "rd"
    refine ⟨x, y, rfl, ax, ay, k1, fun p hx hp => ?_⟩
    subst hx
    obtain ⟨h1, h2⟩ := k2 p rfl hp
    refine ⟨h1, fun n hy hn H' se => ?_⟩
    subst hy
    walk_at "rd"
    refine ⟨(szs_facts p hp n hn).1, n, rfl, (szs_facts p hp n hn).2.1, ?_⟩
    walk_at "rd"
    exact h2 n rfl hn _ se

theorem d_power_whole (T : Txt P K mg cJ cN cF) : Def P w K mg base 1 "power_whole" ["x", "k"] sp_power_whole := by
  refine Def.of T.t_power_whole bi_power_whole sc_power_whole (fun vs H Q E h => ?_) (fun f cdv A outer s H vs Q E at_ hr h => ?_)
  · obtain ⟨x, k, rfl, hx, ⟨hk0, hk⟩, q⟩ := h
    rfl
  · obtain ⟨x, k, rfl, hx, ⟨hk0, hk⟩, q⟩ := h
    have hu := hu_of hr.room
    refine ⟨_, (pss_cons (ps_set (i := 2) sc_power_whole.nd rfl (Or.inl rfl) pe_int)
       (pss_cons (ps_for (passes_of rfl) rfl (pi_range1 rfl T.n_range (pa_cons (pv 1) pa_nil)) (pg_name (i := 3) sc_power_whole.nd rfl (Or.inl rfl))
       (pss_one (ps_set (i := 2) sc_power_whole.nd rfl (Or.inl rfl) (pe_op op_mulW (pv 2) (pv 0)))))
       (pss_one (ps_ret (pv 2))))), ?_⟩
    walk_at "rd"
    refine ⟨by omega, by omega, Lp.rng (fun i σ H' => H' = H ∧ ∃ l, σ = [some (.int x), some (.int k), some (.int (x ^ i)), l]) ⟨rfl, none, by rw [Int.pow_zero]⟩ ?_ ?_⟩
    · rintro i hi σ H' ⟨rfl, l, rfl⟩
      walk_at "rd"
      refine ⟨?_, by rw [Int.pow_succ]⟩
      refine wide_mul (a := 1000 * i + 1) (b := 1000) ?_ hx (by omega) (by decide) (by omega)
      rw [Int.natAbs_pow]
      exact pow_bits hx i
    · rintro σ H' ⟨rfl, l, rfl⟩
      walk_at "rd"
      exact q

theorem d_rows_of_draws (T : Txt P K mg cJ cN cF) : Def P w K mg base 2 "rows_of_draws" ["p", "n"] sp_rows_of_draws := by
  refine Def.of T.t_rows_of_draws bi_rows_of_draws sc_rows_of_draws (fun vs H Q E h => ?_) (fun f cdv A outer s H vs Q E at_ hr h => ?_)
  · obtain ⟨p, n, rfl, hp, hn, q⟩ := h
    rfl
  · obtain ⟨p, n, rfl, hp, hn, q⟩ := h
    have hu := hu_of hr.room
    refine ⟨_, (pss_one (ps_ret (pe_def (d_power_whole T) (hr.mono (by decide)) p0 (pa_cons (pv 0) (pa_cons (pe_op op_add pe_int (pe_def (d_rounds_of T) (hr.mono (by decide)) p0 (pa_cons (pv 1) pa_nil))) pa_nil))))), ?_⟩
    walk_at "rd"
    obtain ⟨f1, f2, f3, f4, f5⟩ := szs_facts p hp n hn
    refine ⟨n, rfl, f2, ?_⟩
    walk_at "rd"
    exact ⟨p, 4 + rnd n, rfl, f4, f3, q⟩

theorem d_draw_rows (T : Txt P K mg cJ cN cF) : Def P w K mg base 7 "draw_rows" ["p", "n"] (sp_draw_rows cN cF) := by
  refine Def.of T.t_draw_rows bi_draw_rows sc_draw_rows (fun vs H Q E h => ?_) (fun f cdv A outer s H vs Q E at_ hr h => ?_)
  · obtain ⟨x, y, rfl, ax, ay, k1, k2⟩ := h
    rfl
  · obtain ⟨x, y, rfl, ax, ay, k1, k2⟩ := h
    have hu := hu_of hr.room
    refine ⟨_, (pss_cons (ps_expr (pe_def (d_need_size T) (hr.mono (by decide)) px (pa_cons (pv 0) (pa_cons (pv 1) pa_nil))))
       (pss_one (ps_ret (pe_def (d_rows_of_draws T) (hr.mono (by decide)) p0 (pa_cons (pv 0) (pa_cons (pv 1) pa_nil)))))), ?_⟩
    walk_at "rd"
    refine ⟨x, y, rfl, ax, ay, k1, fun p hx hp => ?_⟩
    subst hx
    obtain ⟨h1, h2⟩ := k2 p rfl hp
    refine ⟨h1, fun n hy hn H' se => ?_⟩
    subst hy
    walk_at "rd"
    exact ⟨p, n, rfl, hp, hn, h2 n rfl hn _ se⟩

theorem d_void_most (T : Txt P K mg cJ cN cF) : Def P w K mg base 3 "void_most" ["n"] (sp_void_most cN) := by
  refine Def.of T.t_void_most bi_void_most sc_void_most (fun vs H Q E h => ?_) (fun f cdv A outer s H vs Q E at_ hr h => ?_)
  · obtain ⟨x, rfl, ax, k1, k2⟩ := h
    rfl
  · obtain ⟨x, rfl, ax, k1, k2⟩ := h
    have hu := hu_of hr.room
    refine ⟨_, (pss_cons (ps_if (PW.pt (pw_or (pt_not (pt_val (pe_def (d_is_between T) (hr.mono (by decide)) p0 (pa_cons (pv 0) (pa_cons pe_int (pa_cons (pe_ix ix_seq (pe_gtup T.k_SIZES) (pe_un un_neg pe_int) (fun _ _ => rfl)) pa_nil)))))) (pw_or1 (pt_cmpR op_notIn_seq (pv 0) (pe_gtup T.k_SIZES) (by rfl)))))
       (pss_one (ps_raise rfl tkx (pmk_err T.c_BadNumber hr.room (pa_cons pe_str pa_nil))))
       pss_nil)
       (pss_one (ps_ret (pe_op op_add (pe_op op_mulW pe_int (pv 0)) pe_int)))), ?_⟩
    walk_at "rd"
    intro t ht _
    refine sqt_ix (ht _) (i := -1) rfl ?_
    refine ⟨x, 2, 2048, rfl, ax, ?_⟩
    walk_at "rd"
    cases hb : betw x 2 2048
    · walk_at "rd"
      exact fun d hd => errW_new (k1 (isSZ_betw hb)) hd
    · walk_at "rd"
      intro t2 ht2 _
      obtain ⟨i, rfl⟩ := betw_int hb
      refine ⟨_, SL.map V.int, rfl, Or.inr (ht2 _), rfl, rfl, ?_⟩
      rw [if_pos rfl, inV_ints]
      cases e : SL.contains i
      · walk_at "rd"
        exact fun d hd => errW_new (k1 e) hd
      · walk_at "rd"
        have z : i ∈ SL := by simpa using e
        exact ⟨SL_fact i z, k2 i rfl z⟩

theorem d_parts_told (T : Txt P K mg cJ cN cF) : Def P w K mg base 3 "parts_told" ["p", "n"] sp_parts_told := by
  refine Def.of T.t_parts_told bi_parts_told sc_parts_told (fun vs H Q E h => ?_) (fun f cdv A outer s H vs Q E at_ hr h => ?_)
  · obtain ⟨p, n, rfl, hp, hn, q⟩ := h
    rfl
  · obtain ⟨p, n, rfl, hp, hn, q⟩ := h
    have hu := hu_of hr.room
    refine ⟨_, (pss_cons (ps_par (i := 2) (j := 3) (by rfl) sc_parts_told.nd rfl rfl (by decide) rfl rfl (pa_cons (pe_def (d_rounds_of T) (hr.mono (by decide)) p0 (pa_cons (pv 1) pa_nil)) (pa_cons (pe_def (d_rows_of_draws T) (hr.mono (by decide)) p0 (pa_cons (pv 0) (pa_cons (pv 1) pa_nil))) pa_nil)) (by rfl))
       (pss_cons (ps_set (i := 4) sc_parts_told.nd rfl (Or.inl rfl) (pe_op op_fdivW (pv 3) (pv 0)))
       (pss_one (ps_ret (pe_tup (pa_cons (pe_op op_mulW (pe_op op_sub (pe_op op_mulW pe_int (pv 1)) pe_int) (pv 4)) (pa_cons (pe_op op_mulW pe_int (pv 4)) (pa_cons (pe_op op_sub (pv 3) (pe_op op_mulW (pe_def (d_power_whole T) (hr.mono (by decide)) p0 (pa_cons (pv 0) (pa_cons pe_int pa_nil))) (pe_def (d_power_whole T) (hr.mono (by decide)) p0 (pa_cons (pe_op op_sub (pv 0) pe_int) (pa_cons (pv 2) pa_nil))))) pa_nil)))))))), ?_⟩
    walk_at "rd"
    obtain ⟨f1, f2, f3, f4, f5⟩ := szs_facts p hp n hn
    obtain ⟨g1, g2, g3, g4, g5, g6, g7, g8⟩ := prt_facts p hp n hn
    refine ⟨n, rfl, f2, p, n, rfl, hp, hn, ?_⟩
    walk_at "rd"
    refine ⟨g1, g2, g3, g4, p, 4, rfl, f4, by decide, p - 1, _, rfl, g5, g6, ?_⟩
    walk_at "rd"
    refine ⟨g7, by decide, fun d hd => q d _ hd (same_new hd) upd_same⟩

theorem d_bound_parts (T : Txt P K mg cJ cN cF) : Def P w K mg base 7 "bound_parts" ["p", "n"] (sp_bound_parts cN cF) := by
  refine Def.of T.t_bound_parts bi_bound_parts sc_bound_parts (fun vs H Q E h => ?_) (fun f cdv A outer s H vs Q E at_ hr h => ?_)
  · obtain ⟨x, y, rfl, ax, ay, k1, k2⟩ := h
    rfl
  · obtain ⟨x, y, rfl, ax, ay, k1, k2⟩ := h
    have hu := hu_of hr.room
    refine ⟨_, (pss_cons (ps_expr (pe_def (d_need_size T) (hr.mono (by decide)) px (pa_cons (pv 0) (pa_cons (pv 1) pa_nil))))
       (pss_one (ps_ret (pe_def (d_parts_told T) (hr.mono (by decide)) p0 (pa_cons (pv 0) (pa_cons (pv 1) pa_nil)))))), ?_⟩
    walk_at "rd"
    refine ⟨x, y, rfl, ax, ay, k1, fun p hx hp => ?_⟩
    subst hx
    obtain ⟨h1, h2⟩ := k2 p rfl hp
    refine ⟨h1, fun n hy hn H' se => ?_⟩
    subst hy
    walk_at "rd"
    exact ⟨p, n, rfl, hp, hn, (h2 n rfl hn).same se⟩

theorem d_bound (T : Txt P K mg cJ cN cF) : Def P w K mg base 7 "bound" ["p", "n"] (sp_bound cN cF) := by
  refine Def.of T.t_bound bi_bound sc_bound (fun vs H Q E h => ?_) (fun f cdv A outer s H vs Q E at_ hr h => ?_)
  · obtain ⟨x, y, rfl, ax, ay, k1, k2⟩ := h
    rfl
  · obtain ⟨x, y, rfl, ax, ay, k1, k2⟩ := h
    have hu := hu_of hr.room
    refine ⟨_, (pss_cons (ps_expr (pe_def (d_need_size T) (hr.mono (by decide)) px (pa_cons (pv 0) (pa_cons (pv 1) pa_nil))))
       (pss_one (ps_ret (pe_callB (cr_sum2 rfl) rfl T.n_sum boot_sum (pa_cons (pe_def (d_parts_told T) (hr.mono (by decide)) p0 (pa_cons (pv 0) (pa_cons (pv 1) pa_nil))) pa_nil))))), ?_⟩
    walk_at "rd"
    refine ⟨x, y, rfl, ax, ay, k1, fun p hx hp => ?_⟩
    subst hx
    obtain ⟨h1, h2⟩ := k2 p rfl hp
    refine ⟨h1, fun n hy hn H' se => ?_⟩
    subst hy
    walk_at "rd"
    refine ⟨p, n, rfl, hp, hn, fun a H'' ha s2 e => ?_⟩
    refine ⟨a, prts p n, rfl, Or.inr (st_of e), h2 n rfl hn _ (same_trans se s2)⟩

theorem d_short_bound (T : Txt P K mg cJ cN cF) : Def P w K mg base 7 "short_bound" ["p", "n", "q"] (sp_short_bound cN cF) := by
  refine Def.of T.t_short_bound bi_short_bound sc_short_bound (fun vs H Q E h => ?_) (fun f cdv A outer s H vs Q E at_ hr h => ?_)
  · obtain ⟨x, y, q, rfl, aq, ax, ay, k1, k2⟩ := h
    rfl
  · obtain ⟨x, y, q, rfl, aq, ax, ay, k1, k2⟩ := h
    have hu := hu_of hr.room
    refine ⟨_, (pss_cons (ps_expr (pe_def (d_need_size T) (hr.mono (by decide)) px (pa_cons (pv 0) (pa_cons (pv 1) pa_nil))))
       (pss_cons (ps_expr (pe_def (d_need_between T) (hr.mono (by decide)) px (pa_cons (pv 2) (pa_cons pe_int (pa_cons (pe_gint T.k_MOST_PLACES) (pa_cons pe_str pa_nil))))))
       (pss_one (ps_ret (pe_op op_add (pe_op op_mulW (pe_callB (cr_sum2 rfl) rfl T.n_sum boot_sum (pa_cons (pe_def (d_parts_told T) (hr.mono (by decide)) p0 (pa_cons (pv 0) (pa_cons (pv 1) pa_nil))) pa_nil)) (pe_def (d_power_whole T) (hr.mono (by decide)) p0 (pa_cons (pe_op op_mulW pe_int (pv 1)) (pa_cons (pv 2) pa_nil)))) (pe_op op_mulW (pe_def (d_rows_of_draws T) (hr.mono (by decide)) p0 (pa_cons (pv 0) (pa_cons (pv 1) pa_nil))) (pe_def (d_power_whole T) (hr.mono (by decide)) p0 (pa_cons (pe_op op_sub (pe_op op_mulW pe_int (pv 1)) pe_int) (pa_cons (pv 2) pa_nil))))))))), ?_⟩
    walk_at "rd"
    refine ⟨x, y, rfl, ax, ay, k1, fun p hx hp => ?_⟩
    subst hx
    obtain ⟨h1, h2⟩ := k2 p rfl hp
    refine ⟨h1, fun n hy hn H' se => ?_⟩
    subst hy
    obtain ⟨h3, h4⟩ := h2 n rfl hn
    walk_at "rd"
    refine ⟨q, 1, 64, _, rfl, aq.same se, fun hb => ?_, fun hb => (h3 hb).same se⟩
    obtain ⟨i, rfl⟩ := betw_int hb
    have hb1 : 1 ≤ i ∧ i ≤ 64 := by simpa [betw] using hb
    walk_at "rd"
    refine ⟨p, n, rfl, hp, hn, fun a H1 ha s1 e => ?_⟩
    obtain ⟨f1, f2, f3, f4, f5⟩ := szs_facts p hp n hn
    obtain ⟨g1, g2, g3, g4⟩ := short_facts p hp n hn
    obtain ⟨z1, z2⟩ := short_muls p hp n hn i.toNat (by omega) (by omega)
    refine ⟨a, prts p n, rfl, Or.inr (st_of e), g1, 4 * n, i, rfl, g2, by omega, ?_⟩
    walk_at "rd"
    refine ⟨z1, p, n, rfl, hp, hn, ?_⟩
    walk_at "rd"
    refine ⟨g3, 3 * n - 1, i, rfl, g4, by omega, ?_⟩
    walk_at "rd"
    exact ⟨z2, h4 i rfl hb1.1 hb1.2 _ (same_trans se s1)⟩

theorem d_logs_bound (T : Txt P K mg cJ cN cF) : Def P w K mg base 7 "logs_bound" ["p", "n", "t"] (sp_logs_bound cN cF) := by
  refine Def.of T.t_logs_bound bi_logs_bound sc_logs_bound (fun vs H Q E h => ?_) (fun f cdv A outer s H vs Q E at_ hr h => ?_)
  · obtain ⟨x, y, t, rfl, aq, ax, ay, k1, k2⟩ := h
    rfl
  · obtain ⟨x, y, t, rfl, aq, ax, ay, k1, k2⟩ := h
    have hu := hu_of hr.room
    refine ⟨_, (pss_cons (ps_expr (pe_def (d_need_size T) (hr.mono (by decide)) px (pa_cons (pv 0) (pa_cons (pv 1) pa_nil))))
       (pss_cons (ps_expr (pe_def (d_need_between T) (hr.mono (by decide)) px (pa_cons (pv 2) (pa_cons pe_int (pa_cons (pe_gint T.k_MOST_TALKS) (pa_cons pe_str pa_nil))))))
       (pss_one (ps_ret (pe_ifExp (pt_cmpR op_gt (pv 2) pe_int (nomark _)) (pe_op op_mulW (pe_op op_mulW (pv 2) (pe_callB (cr_sum2 rfl) rfl T.n_sum boot_sum (pa_cons (pe_def (d_parts_told T) (hr.mono (by decide)) p0 (pa_cons (pv 0) (pa_cons (pv 1) pa_nil))) pa_nil))) (pe_def (d_power_whole T) (hr.mono (by decide)) p0 (pa_cons (pe_def (d_rows_of_draws T) (hr.mono (by decide)) p0 (pa_cons (pv 0) (pa_cons (pv 1) pa_nil))) (pa_cons (pe_op op_sub (pv 2) pe_int) pa_nil)))) pe_int))))), ?_⟩
    walk_at "rd"
    refine ⟨x, y, rfl, ax, ay, k1, fun p hx hp => ?_⟩
    subst hx
    obtain ⟨h1, h2⟩ := k2 p rfl hp
    refine ⟨h1, fun n hy hn H' se => ?_⟩
    subst hy
    obtain ⟨h3, h4⟩ := h2 n rfl hn
    walk_at "rd"
    refine ⟨t, 0, 20, _, rfl, aq.same se, fun hb => ?_, fun hb => (h3 hb).same se⟩
    obtain ⟨i, rfl⟩ := betw_int hb
    have hb1 : 0 ≤ i ∧ i ≤ 20 := by simpa [betw] using hb
    walk_at "rd"
    have z := h4 i rfl hb1.1 hb1.2
    by_cases hi : 0 < i
    · rw [if_pos hi]
      obtain ⟨z1, z2⟩ := logs_muls p hp n hn i.toNat (by omega)
      have e1 : ((i.toNat : Nat) : Int) = i := by omega
      rw [e1] at z1 z2
      refine ⟨p, n, rfl, hp, hn, fun a H1 ha s1 e => ?_⟩
      refine ⟨a, prts p n, rfl, Or.inr (st_of e), ?_⟩
      walk_at "rd"
      refine ⟨z1, p, n, rfl, hp, hn, ?_⟩
      walk_at "rd"
      refine ⟨rowsD p n, i - 1, rfl, (rows_fact p hp n hn), by omega, ?_⟩
      walk_at "rd"
      refine ⟨z2, ?_⟩
      have e2 : logsB p n i = i * (prts p n).sum * rowsD p n ^ (i - 1).toNat := if_pos hi
      rw [← e2]
      exact z _ (same_trans se s1)
    · rw [if_neg hi]
      have e2 : logsB p n i = 0 := if_neg hi
      rw [e2] at z
      exact z _ se

theorem d_one_row_zeros (T : Txt P K mg cJ cN cF) : Def P w K mg base 7 "one_row_zeros" ["p", "n"] (sp_one_row_zeros cN cF) := by
  refine Def.of T.t_one_row_zeros bi_one_row_zeros sc_one_row_zeros (fun vs H Q E h => ?_) (fun f cdv A outer s H vs Q E at_ hr h => ?_)
  · obtain ⟨x, y, rfl, ax, ay, k1, k2⟩ := h
    rfl
  · obtain ⟨x, y, rfl, ax, ay, k1, k2⟩ := h
    have hu := hu_of hr.room
    refine ⟨_, (pss_cons (ps_expr (pe_def (d_need_size T) (hr.mono (by decide)) px (pa_cons (pv 0) (pa_cons (pv 1) pa_nil))))
       (pss_cons (ps_set (i := 2) sc_one_row_zeros.nd rfl (Or.inl rfl) (pe_def (d_rounds_of T) (hr.mono (by decide)) p0 (pa_cons (pv 1) pa_nil)))
       (pss_one (ps_ret (pe_op op_sub (pe_def (d_power_whole T) (hr.mono (by decide)) p0 (pa_cons (pv 0) (pa_cons (pv 2) pa_nil))) (pe_def (d_power_whole T) (hr.mono (by decide)) p0 (pa_cons (pe_op op_sub (pv 0) pe_int) (pa_cons (pv 2) pa_nil)))))))), ?_⟩
    walk_at "rd"
    refine ⟨x, y, rfl, ax, ay, k1, fun p hx hp => ?_⟩
    subst hx
    obtain ⟨h1, h2⟩ := k2 p rfl hp
    refine ⟨h1, fun n hy hn H' se => ?_⟩
    subst hy
    walk_at "rd"
    obtain ⟨f1, f2, f3, f4, f5⟩ := szs_facts p hp n hn
    obtain ⟨g1, g2, g3, g4, g5, g6, g7, g8⟩ := prt_facts p hp n hn
    refine ⟨n, rfl, f2, p, _, rfl, f4, g6, p - 1, _, rfl, g5, g6, ?_⟩
    walk_at "rd"
    exact h2 n rfl hn _ se

end
end K27
set_option Elab.async false
set_option linter.all false
set_option maxRecDepth 100000
set_option maxHeartbeats 4000000
namespace K27
open PySem PySem.Spec L2 LamX Jud
open PyProof.Rows hiding St wpAt
local macro_rules | `(tactic| walk_at "rd") => `(tactic| try simp only [tSeq, tAsg, gName, tVar, tC, tOp, tUn, rI0, rI, rU, tDef, tCons, tNil, tRet, tIfS, tTest, tB, tNot, tAnd, tOr, tIf, tPar, tDrop, tNext, tAndV, tOrV, tNotV, tCB, tChain, tBM, tBM0, tTup, tLst, cx_K, clo_K, L2.start, List.map_cons, List.map_nil, List.length_cons, List.length_nil, Nat.reduceAdd, Nat.reduceSub, List.replicate_succ, List.replicate_zero, List.cons_append, List.nil_append, List.append_nil, List.set_cons_zero, List.set_cons_succ, List.getElem?_cons_zero, List.getElem?_cons_succ, Option.some.injEq, V.int.injEq, V.bl.injEq, V.str.injEq, V.ref.injEq, List.cons.injEq, exists_eq_left', exists_eq_left, exists_and_left, and_true, true_and, exists_eq', Bool.false_eq_true, if_false, if_true, decide_eq_true_eq, Bool.not_false, Bool.not_true, tMkErr, tG, tFor_r1, tFor_r2, tFor_l, tFor_t, and_assoc, tLc_l, tLc_t, tLc_r1, tLc_r2, wipe, tDGet, sDPut, List.getElem?_nil, tDisp, tPairs, tYes])
/-! The law's draws. -/
section
variable {P : Program} {w : World} {K : PySem.W.Frag} {mg : Str → Option Value} {base : Heap} {cJ cN cF : Addr}
theorem d_law_begun (T : Txt P K mg cJ cN cF) : Def P w K mg base 1 "_law_begun" ["script"] (sp_law_begun K) := by
  refine Def.of T.t_law_begun bi_law_begun sc_law_begun (fun vs H Q E h => ?_) (fun f cdv A outer s H vs Q E at_ hr h => ?_)
  · obtain ⟨a, xs, rfl, hs, hl, k⟩ := h
    rfl
  · obtain ⟨a, xs, rfl, hs, hl, k⟩ := h
    have hu := hu_of hr.room
    refine ⟨_, (pss_cons (ps_setLc (i := 1) (own := [("grain", 2)]) (g := gName 2) (by rfl) sc_law_begun.nd rfl rfl (sw_true rfl rfl rfl (by decide +kernel)) (pi_list (pv 0)) (blkOk_by (own := [("grain", 2)]) (N := ["script", "large", "grain"]) (sc := defScope s_law_begun) (by decide +kernel)) (fun _ _ _ _ _ => pg_name (i := 2) sc_law_begun.nd rfl (Or.inl rfl)) (fun _ _ _ _ _ => (pts_one (pt_cmpR op_ge (pe_callB call_abs rfl T.n_abs boot_abs (pa_cons (pv 2) pa_nil)) (pe_op op_pow pe_int pe_int) (nomark _)))) (fun _ _ _ _ _ => (pe_op op_sub (pe_callB call_abs rfl T.n_abs boot_abs (pa_cons (pv 2) pa_nil)) (pe_op op_pow pe_int pe_int))))
       (pss_one (ps_ret (pe_disp (pps_cons pe_str (pv 1) (pps_cons pe_str (pe_lc (own := [("grain", 2)]) (g := gName 2) (by rfl) sc_law_begun.nd (pi_list (pv 0)) (blkOk_by (own := [("grain", 2)]) (N := ["script", "large", "grain"]) (sc := defScope s_law_begun) (by decide +kernel)) (fun _ _ _ _ _ => pg_name (i := 2) sc_law_begun.nd rfl (Or.inl rfl)) (fun _ _ _ _ _ => pts_nil) (fun _ _ _ _ _ => (pe_op op_mod (pe_callTy call_int_i rfl T.n_int boot_int (pa_cons (pe_callB call_abs rfl T.n_abs boot_abs (pa_cons (pv 2) pa_nil)) pa_nil)) pe_int))) (pps_cons pe_str pe_int (pps_cons pe_str pe_int pps_nil)))) (by rfl) (by rfl) (fun z => by cases z) (by decide))))), ?_⟩
    walk_at "rd"
    refine ⟨⟨_, hs⟩, Lc.list (ofI fun i => if 10 ^ 18 ≤ absI i then some (absI i - 10 ^ 18) else none) hs (by simp [vI]; omega) (fun i x H2 hx s R N h1 h2 => ?_) ?_⟩
    · obtain ⟨z, rfl, _⟩ := vI_get hx
      walk_at "rd"
      refine ⟨by decide, ?_⟩
      show if (10 : Int) ^ 18 ≤ absI z then _ else _
      by_cases e : (10 : Int) ^ 18 ≤ absI z
      · rw [if_pos e]
        refine ⟨by decide, h1 _ ?_ _ (same_refl _)⟩
        show Option.map V.int (if (10 : Int) ^ 18 ≤ absI z then _ else _) = _
        rw [if_pos e]
        rfl
      · rw [if_neg e]
        refine h2 ?_ _ (same_refl _)
        show Option.map V.int (if (10 : Int) ^ 18 ≤ absI z then _ else _) = _
        rw [if_neg e]
        rfl
    · rw [ofI_vI]
      intro l H1 hl1 s1 e1 p hp
      refine ⟨⟨_, sql_same hs (same_trans s1 (same_new hp))⟩, Lc.list (ofI fun i => some (absI i % 2147483629)) (sql_same hs (same_trans s1 (same_new hp))) (by simp [vI]; omega) (fun i x H2 hx s R N h1 h2 => ?_) ?_⟩
      · obtain ⟨z, rfl, _⟩ := vI_get hx
        walk_at "rd"
        exact ⟨by decide, h1 _ rfl _ (same_refl _)⟩
      · rw [ofI_vI]
        intro c H2 hc2 s2 e2
        refine ⟨s2 _ _ upd_same, [(kL, .ref l), (kC, .ref c), (kR, .int 0), (kT, .int 0)], rfl, by show 4 ≤ 15; decide, ?_⟩
        have s3 : Same H H2 := same_trans (same_trans s1 (same_new hp)) s2
        have hp0 : H p = none := same_none s1 hp
        have npl : p ≠ l := fun e => by rw [e, e1] at hp; cases hp
        have ncl : l ≠ c := fun e => by
          have := same_none (same_new hp) hc2
          rw [← e, e1] at this; cases this
        have npc : c ≠ p := fun e => by rw [e, upd_same] at hc2; cases hc2
        refine k p l _ hp0 hl1 npl (same_upd s3 hp0) ⟨c, xs.filterMap (fun i => if 10 ^ 18 ≤ absI i then some (absI i - 10 ^ 18) else none), xs.filterMap (fun i => some (absI i % 2147483629)), 0, 0, upd_same, ?_, ?_, ncl, ?_, ?_, ?_, by decide, by decide⟩
        · rw [upd_ne npl.symm]
          exact s2 _ _ (by rw [upd_ne npl.symm]; exact e1)
        · rw [upd_ne npc]
          exact e2
        · exact Nat.le_trans (List.length_filterMap_le _ _) hl
        · exact Nat.le_trans (List.length_filterMap_le _ _) hl
        · intro i hi
          obtain ⟨z, _, hz⟩ := List.mem_filterMap.mp hi
          cases hz
          exact ⟨Int.emod_nonneg _ (by decide), Int.emod_lt_of_pos _ (by decide)⟩

theorem d_law_mixed (T : Txt P K mg cJ cN cF) : Def P w K mg base 1 "_law_mixed" ["draw"] sp_law_mixed := by
  refine Def.of T.t_law_mixed bi_law_mixed sc_law_mixed (fun vs H Q E h => ?_) (fun f cdv A outer s H vs Q E at_ hr h => ?_)
  · obtain ⟨b, d, l, rfl, nd, hd, k⟩ := h
    rfl
  · obtain ⟨b, d, l, rfl, nd, hd, k⟩ := h
    have hu := hu_of hr.room
    refine ⟨_, (pss_cons (ps_par (i := 1) (j := 2) (by rfl) sc_law_mixed.nd rfl rfl (by decide) rfl rfl (pa_cons (pe_op op_add (pe_dget hu (pv 0) pe_str (fun _ _ => rfl)) pe_int) (pa_cons pe_int pa_nil)) (by rfl))
       (pss_cons (ps_dput hu (pv 0) pe_str (pv 1) rfl)
       (pss_cons (ps_for (passes_of rfl) rfl (pi_list (pe_lst (pa_cons pe_int (pa_cons pe_int (pa_cons pe_int (pa_cons pe_int pa_nil)))))) (pg_name (i := 3) sc_law_mixed.nd rfl (Or.inl rfl))
       (pss_cons (ps_set (i := 4) sc_law_mixed.nd rfl (Or.inl rfl) (pe_op op_add (pe_op op_mulW pe_int (pv 1)) (pe_op op_fdivW (pv 3) pe_int)))
       (pss_cons (ps_for (passes_of rfl) rfl (pi_list (pe_dget hu (pv 0) pe_str (fun _ _ => rfl))) (pg_name (i := 5) sc_law_mixed.nd rfl (Or.inl rfl))
       (pss_one (ps_set (i := 4) sc_law_mixed.nd rfl (Or.inl rfl) (pe_op op_mod (pe_callTy call_int_i rfl T.n_int boot_int (pa_cons (pe_op op_add (pe_op op_add (pe_op op_mulW (pv 4) pe_int) (pv 5)) (pv 1)) pa_nil)) (pv 3)))))
       (pss_one (ps_set (i := 2) sc_law_mixed.nd rfl (Or.inl rfl) (pe_op op_add (pe_op op_mulW (pv 2) pe_int) (pe_op op_mod (pe_callTy call_int_i rfl T.n_int boot_int (pa_cons (pe_op op_pow (pv 4) pe_int) pa_nil)) (pv 3))))))))
       (pss_one (ps_ret (pv 2)))))), ?_⟩
    walk_at "rd"
    obtain ⟨c, ls, cs, r, t, h1, h2, h3, h4, h5, h6, h7, h8, h9⟩ := hd.ex
    have cd : c ≠ d := fun e => by rw [e, h1] at h3; cases h3
    refine ⟨_, get_T h1, t, rfl, _, put_T h1, by decide, fun p hp => ?_⟩
    have np1 : H p = none := by
      by_cases e : p = d
      · rw [e, upd_same] at hp; cases hp
      · rw [upd_ne e] at hp; exact hp
    have npd : d ≠ p := fun e => by rw [← e, upd_same] at hp; cases hp
    refine ⟨⟨_, sl_of upd_same⟩, ?_⟩
    generalize eH : upd (upd H d (drD (.ref l) (.ref c) (.int r) (.int (t + 1)))) p (.lst [V.int 2147483647, V.int 2147483629, V.int 2147483587, V.int 2147483579]) = Hc
    have e1 : Hc d = some (drD (.ref l) (.ref c) (.int r) (.int (t + 1))) := by rw [← eH, upd_ne npd, upd_same]
    have e2 : Hc l = some (.lst (vI ls)) := by rw [← eH, upd_ne (ne_of_none h2 np1), upd_ne nd.symm]; exact h2
    have e3 : Hc c = some (.lst (vI cs)) := by rw [← eH, upd_ne (ne_of_none h3 np1), upd_ne cd]; exact h3
    have e4 : Hc p = some (.lst [V.int 2147483647, V.int 2147483629, V.int 2147483587, V.int 2147483579]) := by rw [← eH, upd_same]
    have kd : Kd d l H Hc := fun x o e n1 n2 => by rw [← eH, upd_ne (ne_of_none e np1), upd_ne n1]; exact e
    have dr : Draw b Hc d l := ⟨c, ls, cs, r, t + 1, e1, e2, e3, h4, h5, h6, h7, by omega, by omega⟩
    refine Lp.list (fun i σ H' => H' = Hc ∧ ∃ z pr bl gr, σ = [some (.ref d), some (.int (t + 1)), some (.int z), pr, bl, gr] ∧ 0 ≤ z ∧ z < 2 ^ (31 * i)) ⟨rfl, 0, none, none, none, rfl, by decide, by decide⟩ (fun i σ H' hI => by rw [hI.1]; exact sl_of e4) ?_ ?_
    · rintro i x hx σ H' ⟨rfl, z, pr, bl, gr, rfl, z0, z1⟩
      obtain ⟨q, rfl, q1, q2, q3⟩ := primes_at hx
      walk_at "rd"
      refine ⟨mul_ok 40 40 (by decide) (by omega) (by omega) (by decide), ⟨by decide, by decide⟩, _, get_C e1, c, rfl, ⟨_, sl_of e3⟩, ?_⟩
      refine Lp.list (fun j σ H'' => H'' = H' ∧ ∃ v g, σ = [some (.ref d), some (.int (t + 1)), some (.int z), some (.int q), some (.int v), g] ∧ 0 ≤ v ∧ v < 2 ^ 40) ⟨rfl, _, _, rfl, by omega, by omega⟩ (fun i σ H' hI => by rw [hI.1]; exact sl_of e3) ?_ ?_
      · rintro j y hy σ H'' ⟨rfl, v, g, rfl, v0, v1⟩
        obtain ⟨u, rfl, hu⟩ := vI_get hy
        have hu2 := h7 u (List.mem_of_getElem? hu)
        walk_at "rd"
        refine ⟨mul_ok 40 40 (by decide) (by omega) (by omega) (by decide), by omega, Int.emod_nonneg _ (by omega), ?_⟩
        have := Int.emod_lt_of_pos (v * 69621 + u + (t + 1)) (show (0 : Int) < q by omega)
        omega
      · rintro σ H'' ⟨rfl, v, g, rfl, v0, v1⟩
        walk_at "rd"
        have z2 : z < 2 ^ 200 := Int.lt_of_lt_of_le z1 (pow2_le (by omega))
        refine ⟨mul_ok 200 40 (by decide) (by omega) (by omega) (by decide), ⟨by decide, by decide, by omega⟩, by omega, ?_⟩
        have m0 := Int.emod_nonneg (v ^ (5 : Int).toNat) (show q ≠ 0 by omega)
        have m1 := Int.emod_lt_of_pos (v ^ (5 : Int).toNat) (show (0 : Int) < q by omega)
        have e : (2 : Int) ^ (31 * (i + 1)) = 2 ^ (31 * i) * 2147483648 := by
          rw [Nat.mul_add, Int.pow_add]
          rfl
        rw [e]
        omega
    · rintro σ H' ⟨rfl, z, pr, bl, gr, rfl, z0, z1⟩
      walk_at "rd"
      exact k z _ kd dr

theorem d_law_take (T : Txt P K mg cJ cN cF) : Def P w K mg base 2 "_law_take" ["draw", "many"] sp_law_take := by
  refine Def.of T.t_law_take bi_law_take sc_law_take (fun vs H Q E h => ?_) (fun f cdv A outer s H vs Q E at_ hr h => ?_)
  · obtain ⟨b, d, l, m, rfl, nd, h0, h1, hd, k⟩ := h
    rfl
  · obtain ⟨b, d, l, m, rfl, nd, h0, h1, hd, k⟩ := h
    have hu := hu_of hr.room
    refine ⟨_, (pss_cons (ps_if (pt_cmpR op_eq (pe_dget hu (pv 0) pe_str (fun _ _ => rfl)) pe_int (nomark _))
       (pss_one (ps_dput hu (pv 0) pe_str (pe_ifExp (pt_cmpR (op_neD hr.room.units) (pe_dget hu (pv 0) pe_str (fun _ _ => rfl)) (pe_lst pa_nil) (nomark _)) (pe_bm PySem.F.plainAttrs_list PySem.F.slot_list_pop PySem.F.type_list_pop mt_popAt (pe_dget hu (pv 0) pe_str (fun _ _ => rfl)) (pa_cons pe_int pa_nil)) (pe_def (d_law_mixed T) (hr.mono (by decide)) p0 (pa_cons (pv 0) pa_nil))) rfl))
       pss_nil)
       (pss_cons (ps_set (i := 2) sc_law_take.nd rfl (Or.inl rfl) (pe_op op_mod (pe_callTy call_int_i rfl T.n_int boot_int (pa_cons (pe_dget hu (pv 0) pe_str (fun _ _ => rfl)) pa_nil)) (pv 1)))
       (pss_cons (ps_dput hu (pv 0) pe_str (pe_op op_fdivW (pe_callTy call_int_i rfl T.n_int boot_int (pa_cons (pe_dget hu (pv 0) pe_str (fun _ _ => rfl)) pa_nil)) (pv 1)) rfl)
       (pss_one (ps_ret (pv 2)))))), ?_⟩
    walk_at "rd"
    obtain ⟨c, ls, cs, r, t, g1, g2, g3, g4, g5, g6, g7, g8, g9⟩ := hd.ex
    have cd : c ≠ d := fun e => by rw [e, g1] at g3; cases g3
    refine ⟨_, get_R g1, rfl, _, rfl, ?_⟩
    by_cases hr0 : r = 0
    · rw [if_pos (by simpa using hr0)]
      refine ⟨_, get_L g1, by decide, fun p hp => ?_⟩
      have s1 := same_new (o := HO.lst []) hp
      have kd1 : Kd d l H _ := Kd.of s1
      refine ⟨_, _, Dp.lst (sl_of (s1 _ _ g2)) (dpAll_ints ls), Dp.lst (sl_of upd_same) .nil, dp_shaped ls, rfl, _, rfl, ?_⟩
      generalize upd H p (HO.lst []) = H1 at s1 kd1 ⊢
      cases ls with
      | nil =>
        rw [if_neg (by decide)]
        refine ⟨b, d, l, rfl, nd, hd.same s1, fun z H2 kd2 dr2 => ?_⟩
        obtain ⟨c', ls, cs', r', t', f1, f2, f3, f4, f5, f6, f7, f8, f9⟩ := dr2.ex
        have cd' : c' ≠ d := fun e => by rw [e, f1] at f3; cases f3
        exact ⟨_, put_R f1, take_end nd h0 h1 upd_same (by rw [upd_ne nd.symm]; exact f2) (by rw [upd_ne cd']; exact f3) f4 f5 f6 f7 f8 f9 ((kd1.trans kd2).trans Kd.putD) k⟩
      | cons y ls =>
        rw [if_pos (by rfl)]
        refine ⟨_, get_L (s1 _ _ g1), Or.inl ⟨rfl, _, sl_of (s1 _ _ g2)⟩, l, _, 0, 0, .int y, rfl, rfl, s1 _ _ g2, by decide, by decide, ?_, rfl, ?_⟩
        · exact seq0 (by simp [vI])
        · have k1 : upd H1 l (HO.lst (vI ls)) d = some (drD (.ref l) (.ref c) (.int r) (.int t)) := by rw [upd_ne nd]; exact s1 _ _ g1
          refine ⟨_, put_R k1, take_end (ls := ls) nd h0 h1 upd_same (by rw [upd_ne nd.symm, upd_same]; rfl) (by rw [upd_ne cd, upd_ne g4.symm]; exact s1 _ _ g3) g4 g5 (by simp at g6; omega) g7 g8 (by omega) ((kd1.trans Kd.putL).trans Kd.putD) k⟩
    · rw [if_neg (by simpa using hr0)]
      exact take_end nd h0 h1 g1 g2 g3 g4 g5 g6 g7 g8 (by omega) Kd.refl k

theorem d_law_pick (T : Txt P K mg cJ cN cF) : Def P w K mg base 3 "_law_pick" ["draw", "some"] (sp_law_pick K) := by
  refine Def.of T.t_law_pick bi_law_pick sc_law_pick (fun vs H Q E h => ?_) (fun f cdv A outer s H vs Q E at_ hr h => ?_)
  · obtain ⟨b, d, l, s, xs, rfl, nd, hs, n1, n2, h0, hl, hd, k⟩ := h
    rfl
  · obtain ⟨b, d, l, s, xs, rfl, nd, hs, n1, n2, h0, hl, hd, k⟩ := h
    have hu := hu_of hr.room
    refine ⟨_, (pss_one (ps_ret (pe_ix ix_seq (pv 1) (pe_def (d_law_take T) (hr.mono (by decide)) p0 (pa_cons (pv 0) (pa_cons (pe_callB call_len rfl T.n_len boot_len (pa_cons (pv 1) pa_nil)) pa_nil))) (fun _ _ => rfl)))), ?_⟩
    walk_at "rd"
    refine ⟨xs.length, Or.inl ⟨xs, sl_of hs, rfl⟩, b, d, l, _, rfl, nd, ?_, ?_, hd, fun z H' z0 z1 kd dr => ?_⟩
    · have := List.length_pos_iff.mpr h0
      omega
    · refine Nat.lt_of_le_of_lt (Nat.log2_le_self _) ?_
      omega
    · refine sql_ix (sl_of (kd _ _ hs n1 n2)) (i := z) (v := xs[z.toNat]'(by omega)) ?_ (k _ _ (List.getElem_mem _) kd dr)
      have z2 : (z.toNat : Int) = z := by omega
      unfold atI ixN
      rw [if_pos z0, if_pos z1]
      simp

end
end K27
set_option Elab.async false
set_option linter.all false
set_option maxRecDepth 100000
set_option maxHeartbeats 4000000
namespace K27
open PySem PySem.Spec L2 LamX Jud
open PyProof.Rows hiding St wpAt
local macro_rules | `(tactic| walk_at "rd") => `(tactic| try simp only [tSeq, tAsg, gName, tVar, tC, tOp, tUn, rI0, rI, rU, tDef, tCons, tNil, tRet, tIfS, tTest, tB, tNot, tAnd, tOr, tIf, tPar, tDrop, tNext, tAndV, tOrV, tNotV, tCB, tChain, tBM, tBM0, tTup, tLst, cx_K, clo_K, L2.start, List.map_cons, List.map_nil, List.length_cons, List.length_nil, Nat.reduceAdd, Nat.reduceSub, List.replicate_succ, List.replicate_zero, List.cons_append, List.nil_append, List.append_nil, List.set_cons_zero, List.set_cons_succ, List.getElem?_cons_zero, List.getElem?_cons_succ, Option.some.injEq, V.int.injEq, V.bl.injEq, V.str.injEq, V.ref.injEq, List.cons.injEq, exists_eq_left', exists_eq_left, exists_and_left, and_true, true_and, exists_eq', Bool.false_eq_true, if_false, if_true, decide_eq_true_eq, Bool.not_false, Bool.not_true, tMkErr, tG, tFor_r1, tFor_r2, tFor_l, tFor_t, and_assoc, tLc_l, tLc_t, tLc_r1, tLc_r2, wipe, tDGet, sDPut, List.getElem?_nil, tDisp, tPairs, tYes, tErrF])
section
variable {P : Program} {w : World} {K : PySem.W.Frag} {mg : Str → Option Value} {base : Heap} {cJ cN cF : Addr}
def sp_law_whole : Sp := sp_power_whole
def sp_law_sizes_of : Sp := fun vs H Q _ => ∃ p, vs = [.int p] ∧ p ∈ FL ∧ LstW (vI (szs p)) H Q
def sp_law_folds_of : Sp := fun vs H Q _ => ∃ n, vs = [.int n] ∧ 1 ≤ n ∧ n ≤ 2048 ∧ Q (.int (rnd n)) H
theorem most_get : ∀ p ∈ FL, valV (mergeK [] [((.inl 41 : Key), V.int 2), (.inl 97, .int 8), (.inl 193, .int 16), (.inl 641, .int 32), (.inl 7681, .int 128), (.inl 12289, .int 1024), (.inl 40961, .int 2048)]) (.inl p) = some (.int (mostR p)) := by
  intro p hp
  simp only [FL, List.mem_cons, List.not_mem_nil, or_false] at hp
  rcases hp with rfl | rfl | rfl | rfl | rfl | rfl | rfl <;> rfl
theorem szs_fm (p : Int) : SL.filterMap (fun n => if n ≤ mostR p then some n else none) = szs p := by
  unfold szs
  generalize SL = xs
  induction xs with
  | nil => rfl
  | cons x r ih =>
    rw [List.filterMap_cons, List.filter_cons, ih]
    by_cases e : x ≤ mostR p <;> simp [e]
theorem log_le {n : Int} (h : 1 ≤ n) (h2 : n ≤ 2048) : Nat.log2 n.toNat + 0 ≤ 11 := by
  have : Nat.log2 n.toNat < 12 := (Nat.log2_lt (by omega)).mpr (by omega)
  omega
theorem rst_x {L : List Addr} {H H1 : Hp} {dd : Addr} {fs : List (Str × V)} {o : HO} (a : Addr) (ha : rst L H H1 a = none) (hx : H1 dd = some (.xd fs)) (hn : ∀ b ∈ L, H1 b = none) : upd (rst L H H1) a o dd = some (.xd fs) := by
  have n : dd ∉ L := fun z => by rw [hn dd z] at hx; cases hx
  have e : rst L H H1 dd = some (.xd fs) := by rw [rst_out n]; exact hx
  rw [upd_ne (ne_of_none e ha)]
  exact e
theorem d_law_caught (T : Txt P K mg cJ cN cF) : Def P w K mg base 12 "_law_caught" ["work"] (sp_law_caught P w K mg base cJ) := by
  refine Def.of T.t_law_caught bi_law_caught sc_law_caught (fun vs H Q E h => ?_) (fun f cdv A outer s H vs Q E at_ hr h => ?_)
  · obtain ⟨g, L, tl, Pe, R, rfl, hc, ht, k1, k2⟩ := h
    rfl
  · obtain ⟨g, L, tl, Pe, R, rfl, hc, ht, k1, k2⟩ := h
    have hu := hu_of hr.room
    refine ⟨_, (pss_cons (ps_set (i := 1) sc_law_caught.nd rfl (Or.inl rfl) pe_non)
       (pss_cons (ps_try_keep (tb := fun W => tDrop (tClo P w K mg base 10 0 (WE W))) (c := .ref cJ) (i := 2) rfl rfl rfl sc_law_caught.nd rfl rfl ⟨rfl, by decide, .inl T.c_JudgeError⟩ tkx (fun W pn xe tk _ => pss_one (ps_expr (pe_clo (k := 10) (i := 0) (passAt tk) hr rfl (Or.inl rfl)))) (fun a cls d pn => pss_one (ps_set (i := 1) sc_law_caught.nd rfl (Or.inl rfl) (pv 2))))
       (pss_one (ps_ret (pv 1))))), ?_⟩
    walk_at "rd"
    refine ⟨g, L, tl, rfl, hc, ht _ _ (fun c d H1 hp hn => ?_) (fun v H1 hr hn => k2 v H1 hr hn)⟩
    obtain ⟨e, k⟩ := k1 c d H1 hp hn
    refine ⟨true, e, fun _ a ha => ?_, fun z => nomatch z⟩
    walk_at "rd"
    exact k a ha

theorem d_law_same (T : Txt P K mg cJ cN cF) : Def P w K mg base 1 "_law_same" ["told", "due"] (sp_law_same K) := by
  refine Def.of T.t_law_same bi_law_same sc_law_same (fun vs H Q E h => ?_) (fun f cdv A outer s H vs Q E at_ hr h => ?_)
  · obtain ⟨x, y, d, rfl, h1, h2, h3, k⟩ := h
    rfl
  · obtain ⟨x, y, d, rfl, h1, h2, h3, k⟩ := h
    have hu := hu_of hr.room
    refine ⟨_, (pss_one (ps_ret (pe_cmpR op_eq (pe_callB (call_repr hr.gd hr.room.units) rfl T.n_repr boot_repr (pa_cons (pv 0) pa_nil)) (pe_callB (call_repr hr.gd hr.room.units) rfl T.n_repr boot_repr (pa_cons (pv 1) pa_nil)) (nomark _)))), ?_⟩
    walk_at "rd"
    exact ⟨x, d, rfl, h1, h3.sh, h3.nd, h3.dp, h3.ln, y, d, rfl, h2, h3.sh, h3.nd, h3.dp, h3.ln, rfl, by simpa using k⟩

theorem d_law_is_bad (T : Txt P K mg cJ cN cF) : Def P w K mg base 13 "_law_is_bad" ["work", "part"] (sp_law_is_bad P w K mg base cN) := by
  refine Def.of T.t_law_is_bad bi_law_is_bad sc_law_is_bad (fun vs H Q E h => ?_) (fun f cdv A outer s H vs Q E at_ hr h => ?_)
  · obtain ⟨g, L, tl, Pe, p, rfl, hc, ht, p1, p2, p3, k1⟩ := h
    rfl
  · obtain ⟨g, L, tl, Pe, p, rfl, hc, ht, p1, p2, p3, k1⟩ := h
    have hu := hu_of hr.room
    refine ⟨_, (pss_cons (ps_set (i := 2) sc_law_is_bad.nd rfl (Or.inl rfl) (pe_def (d_law_caught T) (hr.mono (by decide)) p0 (pa_cons (pv 0) pa_nil)))
       (pss_one (ps_ret (pe_and (pe_callB call_isi2 rfl T.n_isinstance boot_isinstance (pa_cons (pv 2) (pa_cons (pe_glob (v := .ref _) rfl T.c_BadNumber.gC rfl) pa_nil))) (pe_one (pe_def (d_law_same T) (hr.mono (by decide)) p0 (pa_cons (pe_errf (pv 2)) (pa_cons (pv 1) pa_nil)))))))), ?_⟩
    walk_at "rd"
    refine ⟨g, L, tl, Pe, NoV, rfl, hc, ht, fun c d H1 hp hn => ?_, fun v H1 z => z.elim⟩
    obtain ⟨rfl, dd, rfl, hx, k2⟩ := k1 c d H1 hp hn
    refine ⟨T.e_N, fun a ha => Or.inr ⟨a, cN, some dd, .ref cN, .ref cN, true, rfl, upd_same, Or.inr ⟨dd, [("part", .str p)], rfl, ?_⟩, T.x_BadNumber, .own _, T.i_NN, ?_⟩⟩
    · exact rst_x a ha hx hn
    · walk_at "rd"
      refine ⟨cN, dd, upd_same, [("part", .str p)], rst_x a ha hx hn, T.f_BadNumber, T.c_BadNumber.noN, .str p, rfl, ?_⟩
      refine ⟨.str p, .str p, .str p, rfl, .str p, .str p, ⟨p2, rfl, by show 0 ≤ 40; decide, Nat.le_trans p3 (by decide)⟩, k2 _ (same_new ha)⟩

theorem d_law_whole (T : Txt P K mg cJ cN cF) : Def P w K mg base 1 "_law_whole" ["x", "k"] sp_law_whole := by
  refine Def.of T.t_law_whole bi_law_whole sc_law_whole (fun vs H Q E h => ?_) (fun f cdv A outer s H vs Q E at_ hr h => ?_)
  · obtain ⟨x, k, rfl, hx, ⟨hk0, hk⟩, q⟩ := h
    rfl
  · obtain ⟨x, k, rfl, hx, ⟨hk0, hk⟩, q⟩ := h
    have hu := hu_of hr.room
    refine ⟨_, (pss_cons (ps_set (i := 2) sc_law_whole.nd rfl (Or.inl rfl) pe_int)
       (pss_cons (ps_for (passes_of rfl) rfl (pi_range1 rfl T.n_range (pa_cons (pv 1) pa_nil)) (pg_name (i := 3) sc_law_whole.nd rfl (Or.inl rfl))
       (pss_one (ps_set (i := 2) sc_law_whole.nd rfl (Or.inl rfl) (pe_op op_mulW (pv 2) (pv 0)))))
       (pss_one (ps_ret (pv 2))))), ?_⟩
    walk_at "rd"
    refine ⟨by omega, by omega, Lp.rng (fun i σ H' => H' = H ∧ ∃ l, σ = [some (.int x), some (.int k), some (.int (x ^ i)), l]) ⟨rfl, none, by rw [Int.pow_zero]⟩ ?_ ?_⟩
    · rintro i hi σ H' ⟨rfl, l, rfl⟩
      walk_at "rd"
      refine ⟨?_, by rw [Int.pow_succ]⟩
      refine wide_mul (a := 1000 * i + 1) (b := 1000) ?_ hx (by omega) (by decide) (by omega)
      rw [Int.natAbs_pow]
      exact pow_bits hx i
    · rintro σ H' ⟨rfl, l, rfl⟩
      walk_at "rd"
      exact q

theorem d_law_sizes_of (T : Txt P K mg cJ cN cF) : Def P w K mg base 1 "_law_sizes_of" ["p"] sp_law_sizes_of := by
  refine Def.of T.t_law_sizes_of bi_law_sizes_of sc_law_sizes_of (fun vs H Q E h => ?_) (fun f cdv A outer s H vs Q E at_ hr h => ?_)
  · obtain ⟨p, rfl, hp, k⟩ := h
    rfl
  · obtain ⟨p, rfl, hp, k⟩ := h
    have hu := hu_of hr.room
    refine ⟨_, (pss_cons (ps_set (i := 1) sc_law_sizes_of.nd rfl (Or.inr rfl) (pe_dget hu (pe_disp (pps_cons pe_int pe_int (pps_cons pe_int pe_int (pps_cons pe_int pe_int (pps_cons pe_int pe_int (pps_cons pe_int pe_int (pps_cons pe_int pe_int (pps_cons pe_int pe_int pps_nil))))))) (by rfl) (by rfl) (fun z => by cases z) (by decide)) (pv 0) (fun _ _ => rfl)))
       (pss_one (ps_ret (pe_lc (own := [("n", 2)]) (g := gName 2) (by rfl) sc_law_sizes_of.nd (pi_list (pe_lst (pa_cons pe_int (pa_cons pe_int (pa_cons pe_int (pa_cons pe_int (pa_cons pe_int (pa_cons pe_int (pa_cons pe_int (pa_cons pe_int (pa_cons pe_int (pa_cons pe_int (pa_cons pe_int pa_nil))))))))))))) (blkOk_by (own := [("n", 2)]) (N := ["p", "most", "n"]) (sc := defScope s_law_sizes_of) (by decide +kernel)) (fun _ _ _ _ _ => pg_name (i := 2) sc_law_sizes_of.nd rfl (Or.inl rfl)) (fun _ _ _ _ _ => (pts_one (pt_cmpR op_le (pv 2) (pv 1) (nomark _)))) (fun _ _ _ _ _ => (pv 2)))))), ?_⟩
    walk_at "rd"
    intro d hd
    refine ⟨upd_same, [(.inl 41, .int 2), (.inl 97, .int 8), (.inl 193, .int 16), (.inl 641, .int 32), (.inl 7681, .int 128), (.inl 12289, .int 1024), (.inl 40961, .int 2048)], rfl, by decide, .int (mostR p), dget upd_same (k := .inl p) rfl (most_get p hp), by decide, fun l hl => ⟨⟨_, sl_of upd_same⟩, ?_⟩⟩
    refine Lc.list (xs := vI SL) (ofI fun n => if n ≤ mostR p then some n else none) (sl_of upd_same) (by decide) (fun i x H2 hx s R N h1 h2 => ?_) ?_
    · obtain ⟨z, rfl, _⟩ := vI_get hx
      walk_at "rd"
      by_cases e : z ≤ mostR p
      · rw [if_pos e]
        exact h1 _ (by show Option.map V.int (if z ≤ mostR p then some z else none) = _; rw [if_pos e]; rfl) _ (same_refl _)
      · rw [if_neg e]
        exact h2 (by show Option.map V.int (if z ≤ mostR p then some z else none) = _; rw [if_neg e]; rfl) _ (same_refl _)
    · rw [ofI_vI, szs_fm p]
      refine k.same (same_trans (same_upd (same_new hd) hd) (same_new hl))

theorem d_law_folds_of (T : Txt P K mg cJ cN cF) : Def P w K mg base 1 "_law_folds_of" ["n"] sp_law_folds_of := by
  refine Def.of T.t_law_folds_of bi_law_folds_of sc_law_folds_of (fun vs H Q E h => ?_) (fun f cdv A outer s H vs Q E at_ hr h => ?_)
  · obtain ⟨n, rfl, hn, hn2, k⟩ := h
    rfl
  · obtain ⟨n, rfl, hn, hn2, k⟩ := h
    have hu := hu_of hr.room
    refine ⟨_, (pss_cons (ps_par (i := 1) (j := 2) (by rfl) sc_law_folds_of.nd rfl rfl (by decide) rfl rfl (pa_cons pe_int (pa_cons (pv 0) pa_nil)) (by rfl))
       (pss_cons (ps_for (passes_of rfl) rfl (pi_range1 rfl T.n_range (pa_cons pe_int pa_nil)) (pg_name (i := 3) sc_law_folds_of.nd rfl (Or.inl rfl))
       (pss_one (ps_if (pt_cmpR op_gt (pv 2) pe_int (nomark _))
       (pss_one (ps_par (i := 1) (j := 2) (by rfl) sc_law_folds_of.nd rfl rfl (by decide) rfl rfl (pa_cons (pe_op op_add (pv 1) pe_int) (pa_cons (pe_op op_fdivW (pv 2) pe_int) pa_nil)) (by rfl)))
       pss_nil)))
       (pss_one (ps_ret (pv 1))))), ?_⟩
    walk_at "rd"
    refine ⟨by decide, by decide, Lp.rng (fun i σ H' => H' = H ∧ ∃ t l lp, σ = [some (.int n), some (.int t), some (.int l), lp] ∧ 1 ≤ l ∧ t + (Nat.log2 l.toNat : Nat) = rnd n ∧ (l = 1 ∨ Nat.log2 l.toNat + i ≤ 11)) ⟨rfl, 1, n, none, rfl, hn, rfl, Or.inr (log_le hn hn2)⟩ ?_ ?_⟩
    · rintro i hi σ H' ⟨rfl, t, l, lp, rfl, l1, ht, hl⟩
      walk_at "rd"
      by_cases h : 1 < l
      · rw [if_pos h]
        have e : (l / 2).toNat = l.toNat / 2 := by omega
        have e2 : Nat.log2 l.toNat = Nat.log2 (l.toNat / 2) + 1 := by
          rw [Nat.log2_def, if_pos (by omega)]
        refine ⟨⟨by decide, by decide⟩, by omega, by rw [e]; omega, ?_⟩
        rcases hl with hl | hl
        · omega
        · exact Or.inr (by rw [e]; omega)
      · rw [if_neg h]
        exact ⟨l1, ht, Or.inl (by omega)⟩
    · rintro σ H' ⟨rfl, t, l, lp, rfl, l1, ht, hl⟩
      walk_at "rd"
      have e : l = 1 := by
        rcases hl with hl | hl
        · exact hl
        · exfalso
          have : (12 : Int).toNat = 12 := rfl
          omega
      subst e
      have e3 : t = rnd n := by
        rw [← ht]
        have : Nat.log2 (1 : Int).toNat = 0 := by decide
        omega
      rw [e3]
      exact k

end
end K27
set_option Elab.async false
set_option linter.all false
set_option maxRecDepth 100000
set_option maxHeartbeats 4000000


namespace K27
open PySem PySem.Spec L2 LamX Jud
open PyProof.Rows hiding St wpAt
local macro_rules | `(tactic| walk_at "rd") => `(tactic| try simp only [tSeq, tAsg, gName, tVar, tC, tOp, tUn, rI0, rI, rU, tDef, tCons, tNil, tRet, tIfS, tTest, tB, tNot, tAnd, tOr, tIf, tPar, tDrop, tNext, tAndV, tOrV, tNotV, tCB, tChain, tBM, tBM0, tTup, tLst, cx_K, clo_K, L2.start, List.map_cons, List.map_nil, List.length_cons, List.length_nil, Nat.reduceAdd, Nat.reduceSub, List.replicate_succ, List.replicate_zero, List.cons_append, List.nil_append, List.append_nil, List.set_cons_zero, List.set_cons_succ, List.getElem?_cons_zero, List.getElem?_cons_succ, Option.some.injEq, V.int.injEq, V.bl.injEq, V.str.injEq, V.ref.injEq, List.cons.injEq, exists_eq_left', exists_eq_left, exists_and_left, and_true, true_and, exists_eq', Bool.false_eq_true, if_false, if_true, decide_eq_true_eq, Bool.not_false, Bool.not_true, tMkErr, tG, tFor_r1, tFor_r2, tFor_l, tFor_t, and_assoc, tLc_l, tLc_t, tLc_r1, tLc_r2, wipe, tDGet, sDPut, List.getElem?_nil, tDisp, tPairs, tYes, tErrF, tDefK, C8.tCut])
theorem FL_isF : ∀ p ∈ FL, isF (.int p) = true := by decide +kernel
theorem need_ok {cN cF : Addr} {p n : Int} {H : Hp} {E : XK} {ok : Int → Int → Prop} (hp : p ∈ FL) (hn : n ∈ szs p) (h : ok p n) : NeedS cN cF (.int p) (.int n) H E ok :=
  ⟨.int p, .int n, fun z => (by rw [FL_isF p hp] at z; cases z), fun p' e hp' => by
    cases e
    refine ⟨fun z => ?_, fun n' e' _ => ?_⟩
    · have z2 : (szs p).contains n = true := by simpa using hn
      have z3 : (szs p).contains n = false := z
      rw [z2] at z3; cases z3
    · cases e'
      exact h⟩
def prL (p n : Int) : List Int := [(49 * n - 1) * p ^ (3 + rnd n).toNat, 28 * p ^ (3 + rnd n).toNat, p ^ (4 : Int).toNat * (p ^ (rnd n).toNat - (p - 1) ^ (rnd n).toNat)]
theorem law_facts : ∀ p ∈ FL, ∀ n ∈ szs p, n ≤ 2048 ∧ (0 ≤ 3 + rnd n ∧ 3 + rnd n ≤ 500) ∧ prL p n = prts p n ∧ CMulW (p ^ (4 : Int).toNat) (p ^ (rnd n).toNat - (p - 1) ^ (rnd n).toNat) ∧ CMulW 49 n ∧ CMulW (49 * n - 1) (p ^ (3 + rnd n).toNat) ∧ CMulW 28 (p ^ (3 + rnd n).toNat) := by decide +kernel
theorem szs_SL : ∀ p ∈ FL, ∀ n ∈ szs p, n ∈ SL := by decide +kernel
theorem sml17 : ∀ p ∈ FL, ∀ n ∈ szs p, CMulW 17 n := by decide +kernel
theorem shw1 : ∀ p ∈ FL, ∀ n ∈ szs p, Shw (.list [.int (rowsD p n), .tuple ((prts p n).map .int), .int (bnd p n), .int (17 * n + 3)]) := by
  have h : ∀ p ∈ FL, ∀ n ∈ szs p, shwB (.list [.int (rowsD p n), .tuple ((prts p n).map .int), .int (bnd p n), .int (17 * n + 3)]) = true := by decide +kernel
  exact fun p hp n hn => .ofB (h p hp n hn)
theorem shw2 : ∀ p ∈ FL, ∀ n ∈ szs p, Shw (.int (oneR p n)) := by
  have h : ∀ p ∈ FL, ∀ n ∈ szs p, shwB (.int (oneR p n)) = true := by decide +kernel
  exact fun p hp n hn => .ofB (h p hp n hn)
theorem spk_fact : ∀ p ∈ FL, ∀ n ∈ szs p, CMulW (17 * n + 3) (p ^ (3 + rnd n).toNat) ∧ (spk p n = true → (prts p n).sum < p ^ (4 + rnd n).toNat - (17 * n + 3) * p ^ (3 + rnd n).toNat) := by decide +kernel
theorem short_law0 : ∀ p ∈ FL, ∀ n ∈ szs p, ∀ q ∈ List.range 65, CMulW ((prts p n).sum * (4 * n) ^ q + p ^ (4 + rnd n).toNat * (3 * n - 1) ^ q) 4 ∧ CMulW (((prts p n).sum * (4 * n) ^ q + p ^ (4 + rnd n).toNat * (3 * n - 1) ^ q) * 4) n ∧
    (q < 64 → ¬ ((prts p n).sum * (4 * n) ^ q + p ^ (4 + rnd n).toNat * (3 * n - 1) ^ q) * 4 * n ≤ shortB p n ((q : Int) + 1)) := by decide +kernel
theorem short_law (p : Int) (hp : p ∈ FL) (n : Int) (hn : n ∈ szs p) (q : Int) (h1 : 1 ≤ q) (h2 : q ≤ 64) : CMulW ((prts p n).sum * (4 * n) ^ q.toNat + p ^ (4 + rnd n).toNat * (3 * n - 1) ^ q.toNat) 4 ∧ CMulW (((prts p n).sum * (4 * n) ^ q.toNat + p ^ (4 + rnd n).toNat * (3 * n - 1) ^ q.toNat) * 4) n ∧
    (q < 64 → ¬ ((prts p n).sum * (4 * n) ^ q.toNat + p ^ (4 + rnd n).toNat * (3 * n - 1) ^ q.toNat) * 4 * n ≤ shortB p n (q + 1)) := by
  obtain ⟨a, b, c⟩ := short_law0 p hp n hn q.toNat (List.mem_range.mpr (by omega))
  have e : ((q.toNat : Nat) : Int) = q := by omega
  rw [e] at c
  exact ⟨a, b, fun h => c (by omega)⟩
end K27
set_option Elab.async false
set_option linter.all false
set_option maxRecDepth 100000
set_option maxHeartbeats 4000000


namespace K27
open PySem PySem.Spec L2 LamX Jud
open PyProof.Rows hiding St wpAt
local macro_rules | `(tactic| walk_at "rd") => `(tactic| try simp only [tSeq, tAsg, gName, tVar, tC, tOp, tUn, rI0, rI, rU, tDef, tCons, tNil, tRet, tIfS, tTest, tB, tNot, tAnd, tOr, tIf, tPar, tDrop, tNext, tAndV, tOrV, tNotV, tCB, tChain, tBM, tBM0, tTup, tLst, cx_K, clo_K, L2.start, List.map_cons, List.map_nil, List.length_cons, List.length_nil, Nat.reduceAdd, Nat.reduceSub, List.replicate_succ, List.replicate_zero, List.cons_append, List.nil_append, List.append_nil, List.set_cons_zero, List.set_cons_succ, List.getElem?_cons_zero, List.getElem?_cons_succ, Option.some.injEq, V.int.injEq, V.bl.injEq, V.str.injEq, V.ref.injEq, List.cons.injEq, exists_eq_left', exists_eq_left, exists_and_left, and_true, true_and, exists_eq', Bool.false_eq_true, if_false, if_true, decide_eq_true_eq, Bool.not_false, Bool.not_true, tMkErr, tG, tFor_r1, tFor_r2, tFor_l, tFor_t, and_assoc, tLc_l, tLc_t, tLc_r1, tLc_r2, wipe, tDGet, sDPut, List.getElem?_nil, tDisp, tPairs, tYes, tErrF, tDefK, C8.tCut])
section
variable {P : Program} {w : World} {K : PySem.W.Frag} {mg : Str → Option Value} {base : Heap} {cJ cN cF : Addr}
def sp_law_size_right : Sp := fun vs H Q _ => ∃ (b : Nat) (d l : Addr) (p n : Int), vs = [.ref d, .int p, .int n] ∧ d ≠ l ∧ Draw (b + 2) H d l ∧ p ∈ FL ∧ n ∈ szs p ∧ ∀ H', Kd d l H H' → Draw b H' d l → Q (.bl true) H'
theorem d_law_size_right (T : Txt P K mg cJ cN cF) : Def P w K mg base 9 "_law_size_right" ["draw", "p", "n"] sp_law_size_right := by
  refine Def.of T.t_law_size_right bi_law_size_right sc_law_size_right (fun vs H Q E h => ?_) (fun f cdv A outer s H vs Q E at_ hr h => ?_)
  · obtain ⟨b, d, l, p, n, rfl, nd, hd, hp, hn, k⟩ := h
    rfl
  · obtain ⟨b, d, l, p, n, rfl, nd, hd, hp, hn, k⟩ := h
    have hu := hu_of hr.room
    refine ⟨_, (pss_cons (ps_set (i := 3) sc_law_size_right.nd rfl (Or.inl rfl) (pe_def (d_law_folds_of T) (hr.mono (by decide)) p0 (pa_cons (pv 2) pa_nil)))
       (pss_cons (ps_par (i := 4) (j := 5) (by rfl) sc_law_size_right.nd rfl rfl (by decide) rfl rfl (pa_cons (pe_def (d_law_whole T) (hr.mono (by decide)) p0 (pa_cons (pv 1) (pa_cons (pe_op op_add pe_int (pv 3)) pa_nil))) (pa_cons (pe_op op_mulW (pe_def (d_law_whole T) (hr.mono (by decide)) p0 (pa_cons (pv 1) (pa_cons pe_int pa_nil))) (pe_op op_sub (pe_def (d_law_whole T) (hr.mono (by decide)) p0 (pa_cons (pv 1) (pa_cons (pv 3) pa_nil))) (pe_def (d_law_whole T) (hr.mono (by decide)) p0 (pa_cons (pe_op op_sub (pv 1) pe_int) (pa_cons (pv 3) pa_nil))))) pa_nil)) (by rfl))
       (pss_cons (ps_set (i := 6) sc_law_size_right.nd rfl (Or.inl rfl) (pe_tup (pa_cons (pe_op op_mulW (pe_op op_sub (pe_op op_mulW pe_int (pv 2)) pe_int) (pe_def (d_law_whole T) (hr.mono (by decide)) p0 (pa_cons (pv 1) (pa_cons (pe_op op_add pe_int (pv 3)) pa_nil)))) (pa_cons (pe_op op_mulW pe_int (pe_def (d_law_whole T) (hr.mono (by decide)) p0 (pa_cons (pv 1) (pa_cons (pe_op op_add pe_int (pv 3)) pa_nil)))) (pa_cons (pv 5) pa_nil)))))
       (pss_cons (ps_if (pt_not (pt_val (pe_def (d_law_same T) (hr.mono (by decide)) p0 (pa_cons (pe_lst (pa_cons (pe_def (d_draw_rows T) (hr.mono (by decide)) px (pa_cons (pv 1) (pa_cons (pv 2) pa_nil))) (pa_cons (pe_def (d_bound_parts T) (hr.mono (by decide)) px (pa_cons (pv 1) (pa_cons (pv 2) pa_nil))) (pa_cons (pe_def (d_bound T) (hr.mono (by decide)) px (pa_cons (pv 1) (pa_cons (pv 2) pa_nil))) (pa_cons (pe_def (d_void_most T) (hr.mono (by decide)) px (pa_cons (pv 2) pa_nil)) pa_nil))))) (pa_cons (pe_lst (pa_cons (pv 4) (pa_cons (pv 6) (pa_cons (pe_callB (cr_sum2 rfl) rfl T.n_sum boot_sum (pa_cons (pv 6) pa_nil)) (pa_cons (pe_op op_add (pe_op op_mulW pe_int (pv 2)) pe_int) pa_nil))))) pa_nil)))))
       (pss_one (ps_ret pe_bl))
       pss_nil)
       (pss_cons (ps_if (pt_not (pt_val (pe_def (d_law_same T) (hr.mono (by decide)) p0 (pa_cons (pe_def (d_one_row_zeros T) (hr.mono (by decide)) px (pa_cons (pv 1) (pa_cons (pv 2) pa_nil))) (pa_cons (pe_op op_sub (pe_def (d_law_whole T) (hr.mono (by decide)) p0 (pa_cons (pv 1) (pa_cons (pv 3) pa_nil))) (pe_def (d_law_whole T) (hr.mono (by decide)) p0 (pa_cons (pe_op op_sub (pv 1) pe_int) (pa_cons (pv 3) pa_nil)))) pa_nil)))))
       (pss_one (ps_ret pe_bl))
       pss_nil)
       (C8.pss_cut (ps_if (PW.pt (pw_and (pt_val (pe_def (d_speaks T) (hr.mono (by decide)) px (pa_cons (pv 1) (pa_cons (pv 2) pa_nil)))) (pw_and1 (pt_not (pt_cmpR op_lt (pe_callB (cr_sum2 rfl) rfl T.n_sum boot_sum (pa_cons (pv 6) pa_nil)) (pe_op op_sub (pv 4) (pe_op op_mulW (pe_op op_add (pe_op op_mulW pe_int (pv 2)) pe_int) (pe_def (d_law_whole T) (hr.mono (by decide)) p0 (pa_cons (pv 1) (pa_cons (pe_op op_add pe_int (pv 3)) pa_nil))))) (nomark _))))))
       (pss_one (ps_ret pe_bl))
       pss_nil)
       (pss_cons (ps_for (passes_of rfl) rfl (pi_list (pe_lst (pa_cons pe_int (pa_cons pe_int (pa_cons (pe_op op_add pe_int (pe_def (d_law_take T) (hr.mono (by decide)) p0 (pa_cons (pv 0) (pa_cons pe_int pa_nil)))) pa_nil))))) (pg_name (i := 7) sc_law_size_right.nd rfl (Or.inl rfl))
       (pss_cons (ps_set (i := 8) sc_law_size_right.nd rfl (Or.inl rfl) (pe_op op_add (pe_op op_mulW (pe_callB (cr_sum2 rfl) rfl T.n_sum boot_sum (pa_cons (pv 6) pa_nil)) (pe_def (d_law_whole T) (hr.mono (by decide)) p0 (pa_cons (pe_op op_mulW pe_int (pv 2)) (pa_cons (pv 7) pa_nil)))) (pe_op op_mulW (pv 4) (pe_def (d_law_whole T) (hr.mono (by decide)) p0 (pa_cons (pe_op op_sub (pe_op op_mulW pe_int (pv 2)) pe_int) (pa_cons (pv 7) pa_nil))))))
       (pss_cons (ps_if (PW.pt (pw_or (pt_cmpR op_ne (pe_def (d_short_bound T) (hr.mono (by decide)) px (pa_cons (pv 1) (pa_cons (pv 2) (pa_cons (pv 7) pa_nil)))) (pv 8) (nomark _)) (pw_or1 (pt_cmpR op_ne (pe_defK (ks := ["n", "q", "p"]) (g := (fun | [a0, a1, a2] => [a2, a0, a1] | _ => [])) (gV := (fun | [a0, a1, a2] => [a2, a0, a1] | _ => [])) (d_short_bound T) T.t_short_bound (hr.mono (by decide)) px (fun _ _ _ _ _ _ ws hl => match ws, hl with | [_, _, _], _ => rfl) (fun zs ws r => by rcases r with _ | ⟨a0, _ | ⟨a1, _ | ⟨a2, _ | _⟩⟩⟩ <;> first | exact (.cons a2 (.cons a0 (.cons a1 .nil))) | exact .nil) (fun zs h => by rcases zs with _ | ⟨_, _ | ⟨_, _ | ⟨_, _ | _⟩⟩⟩ <;> first | rfl | cases h) (pk_cons (pv 2) (pk_cons (pv 7) (pk_cons (pv 1) pk_nil)))) (pv 8) (nomark _)))))
       (pss_one (ps_ret pe_bl))
       pss_nil)
       (pss_one (ps_if (PW.pt (pw_and (pt_cmpR op_lt (pv 7) pe_int (nomark _)) (pw_and1 (pt_cmpR op_ge (pe_def (d_short_bound T) (hr.mono (by decide)) px (pa_cons (pv 1) (pa_cons (pv 2) (pa_cons (pe_op op_add (pv 7) pe_int) pa_nil)))) (pe_op op_mulW (pe_op op_mulW (pv 8) pe_int) (pv 2)) (nomark _)))))
       (pss_one (ps_ret pe_bl))
       pss_nil)))))
       (pss_cons (ps_for (passes_of rfl) rfl (pi_list (pe_lst (pa_cons pe_int (pa_cons pe_int (pa_cons pe_int (pa_cons (pe_def (d_law_take T) (hr.mono (by decide)) p0 (pa_cons (pv 0) (pa_cons pe_int pa_nil))) pa_nil)))))) (pg_name (i := 9) sc_law_size_right.nd rfl (Or.inl rfl))
       (pss_cons (ps_set (i := 8) sc_law_size_right.nd rfl (Or.inl rfl) (pe_ifExp (pt_cmpR op_gt (pv 9) pe_int (nomark _)) (pe_op op_mulW (pe_op op_mulW (pv 9) (pe_callB (cr_sum2 rfl) rfl T.n_sum boot_sum (pa_cons (pv 6) pa_nil))) (pe_def (d_law_whole T) (hr.mono (by decide)) p0 (pa_cons (pv 4) (pa_cons (pe_op op_sub (pv 9) pe_int) pa_nil)))) pe_int))
       (pss_one (ps_if (PW.pt (pw_or (pt_cmpR op_ne (pe_def (d_logs_bound T) (hr.mono (by decide)) px (pa_cons (pv 1) (pa_cons (pv 2) (pa_cons (pv 9) pa_nil)))) (pv 8) (nomark _)) (pw_or1 (pt_not (pt_val (pe_callB call_isi rfl T.n_isinstance boot_isinstance (pa_cons (pe_def (d_logs_bound T) (hr.mono (by decide)) px (pa_cons (pv 1) (pa_cons (pv 2) (pa_cons (pv 9) pa_nil)))) (pa_cons (pe_bltn (v := .ty "int") (u := .type "int") rfl T.n_int boot_int rfl) pa_nil))))))))
       (pss_one (ps_ret pe_bl))
       pss_nil))))
       (pss_one (ps_ret pe_bl)))))))))), ?_⟩
    walk_at "rd"
    obtain ⟨f1, f2, f3, f4, f5⟩ := szs_facts p hp n hn
    obtain ⟨g1, g2, g3, g4, g5, g6, g7, g8⟩ := prt_facts p hp n hn
    have g2' := sml17 p hp n hn
    obtain ⟨l1, l2, l3, l4, l5, l6, l7⟩ := law_facts p hp n hn
    refine ⟨n, rfl, f2, l1, ?_⟩; walk_at "rd"
    refine ⟨p, 4 + rnd n, rfl, f4, f3, ?_⟩; walk_at "rd"
    refine ⟨p, 4, rfl, f4, by decide, ?_⟩; walk_at "rd"
    refine ⟨p, rnd n, rfl, f4, g6, ?_⟩; walk_at "rd"
    refine ⟨p - 1, rnd n, rfl, g5, g6, ?_⟩; walk_at "rd"
    refine ⟨l4, l5, p, 3 + rnd n, rfl, f4, l2, ?_⟩; walk_at "rd"
    refine ⟨l6, p, 3 + rnd n, rfl, f4, l2, ?_⟩; walk_at "rd"
    refine ⟨l7, by decide, fun t ht => ?_⟩
    have et : [V.int ((49 * n - 1) * p ^ (3 + rnd n).toNat), V.int (28 * p ^ (3 + rnd n).toNat), V.int (p ^ (4 : Int).toNat * (p ^ (rnd n).toNat - (p - 1) ^ (rnd n).toNat))] = vI (prts p n) := by rw [← l3]; rfl
    rw [et]
    have et' : upd H t (.tup (vI (prts p n))) t = some (.tup (vI (prts p n))) := upd_same
    have st := same_new (o := HO.tup (vI (prts p n))) ht
    generalize upd H t (.tup (vI (prts p n))) = H1 at et' st ⊢
    refine ⟨_, _, rfl, need_ok hp hn fun H2 s2 => ?_⟩; walk_at "rd"
    refine ⟨_, _, rfl, need_ok hp hn fun u H3 hu s3 eu => ?_⟩; walk_at "rd"
    refine ⟨_, _, rfl, need_ok hp hn fun H4 s4 => ?_⟩; walk_at "rd"
    have c4 : Same H H4 := same_trans (same_trans (same_trans st s2) s3) s4
    have t4 : H4 t = some (.tup (vI (prts p n))) := s4 _ _ (s3 _ _ (s2 _ _ et'))
    have u4 : H4 u = some (.tup (vI (prts p n))) := s4 _ _ eu
    refine ⟨_, rfl, .int n, fun z => ?_, fun n' e' _ => ?_⟩
    · have z2 : SL.contains n = true := by simpa using szs_SL p hp n hn
      have z3 : SL.contains n = false := z
      rw [z2] at z3; cases z3
    cases e'
    walk_at "rd"
    refine ⟨by decide, fun a1 ha1 => ?_⟩
    have s5 := same_new (o := HO.lst [V.int (rowsD p n), V.ref u, V.int (bnd p n), V.int (17 * n + 3)]) ha1
    have e5 : upd H4 a1 (HO.lst [V.int (rowsD p n), V.ref u, V.int (bnd p n), V.int (17 * n + 3)]) a1 = _ := upd_same
    generalize upd H4 a1 (HO.lst [V.int (rowsD p n), V.ref u, V.int (bnd p n), V.int (17 * n + 3)]) = H5 at s5 e5 ⊢
    refine ⟨t, prts p n, rfl, Or.inr (st_of (s5 _ _ t4)), g2', by decide, fun a2 ha2 => ?_⟩
    have s6 := same_new (o := HO.lst [V.int (p ^ (4 + rnd n).toNat), V.ref t, V.int (prts p n).sum, V.int (17 * n + 3)]) ha2
    have e6 : upd H5 a2 (HO.lst [V.int (p ^ (4 + rnd n).toNat), V.ref t, V.int (prts p n).sum, V.int (17 * n + 3)]) a2 = _ := upd_same
    generalize upd H5 a2 (HO.lst [V.int (p ^ (4 + rnd n).toNat), V.ref t, V.int (prts p n).sum, V.int (17 * n + 3)]) = H6 at s6 e6 ⊢
    have c6 : Same H4 H6 := same_trans s5 s6
    refine ⟨_, _, .list [.int (rowsD p n), .tuple ((prts p n).map .int), .int (bnd p n), .int (17 * n + 3)], rfl, Dp.lst (sl_of (s6 _ _ e5)) (.cons (.int _) (.cons (.tup (st_of (c6 _ _ u4)) (dpAll_ints _)) (.cons (.int _) (.cons (.int _) .nil)))),
      Dp.lst (sl_of e6) (.cons (.int _) (.cons (.tup (st_of (c6 _ _ t4)) (dpAll_ints _)) (.cons (.int _) (.cons (.int _) .nil)))), shw1 p hp n hn, ?_⟩
    walk_at "rd"
    refine ⟨_, _, rfl, need_ok hp hn fun H7 s7 => ?_⟩; walk_at "rd"
    refine ⟨p, rnd n, rfl, f4, g6, ?_⟩; walk_at "rd"
    refine ⟨p - 1, rnd n, rfl, g5, g6, ?_⟩; walk_at "rd"
    refine ⟨_, _, .int (oneR p n), rfl, .int _, .int _, shw2 p hp n hn, ?_⟩
    walk_at "rd"
    have c7 : Same H H7 := same_trans c4 (same_trans c6 s7)
    have t7 : H7 t = some (.tup (vI (prts p n))) := s7 _ _ (c6 _ _ t4)
    refine ⟨fun σ' H' => Same H H' ∧ H' t = some (.tup (vI (prts p n))) ∧ σ' = [some (.ref d), some (.int p), some (.int n), some (.int (rnd n)), some (.int (p ^ (4 + rnd n).toNat)), some (.int (p ^ (4 : Int).toNat * (p ^ (rnd n).toNat - (p - 1) ^ (rnd n).toNat))), some (.ref t), none, none, none], ?_, ?_⟩
    · refine ⟨_, _, rfl, need_ok hp hn fun H8 s8 => ?_⟩; walk_at "rd"
      have m8 := same_trans c7 s8
      have t8 := s8 _ _ t7
      cases e : spk p n
      · rw [if_neg (by decide)]
        exact ⟨m8, t8⟩
      · rw [if_pos rfl]
        refine ⟨t, prts p n, rfl, Or.inr (st_of t8), g2', p, 3 + rnd n, rfl, f4, l2, ?_⟩; walk_at "rd"
        obtain ⟨q1, q2⟩ := spk_fact p hp n hn
        refine ⟨q1, ?_⟩
        have e2 : (prts p n).sum < p ^ (4 + rnd n).toNat - (17 * n + 3) * p ^ (3 + rnd n).toNat := q2 e
        rw [if_neg (by simpa using e2)]
        exact ⟨m8, t8⟩
    · rintro σ' H8 ⟨c8, t8, rfl⟩
      walk_at "rd"
      refine ⟨b + 1, d, l, 64, rfl, nd, by decide, by decide, hd.same c8, fun z H9 z0 z1 kd9 dr9 => ?_⟩
      have td : t ≠ d := fun e => by
        obtain ⟨c, ls, cs, r, tt, h1, h2⟩ := hd.ex
        rw [e, h1] at ht; cases ht
      have tl : t ≠ l := fun e => by
        obtain ⟨c, ls, cs, r, tt, h1, h2, h3⟩ := hd.ex
        rw [e, h2] at ht; cases ht
      have t9 := kd9 _ _ t8 td tl
      walk_at "rd"
      refine ⟨by decide, fun a ha => ⟨⟨_, sl_of upd_same⟩, ?_⟩⟩
      have sa := same_new (o := HO.lst [V.int 1, V.int 64, V.int (1 + z)]) ha
      have ea : upd H9 a (HO.lst [V.int 1, V.int 64, V.int (1 + z)]) a = _ := upd_same
      generalize upd H9 a (HO.lst [V.int 1, V.int 64, V.int (1 + z)]) = Ha at sa ea ⊢
      refine Lp.list (xs := [V.int 1, V.int 64, V.int (1 + z)]) (fun i σ H' => Same Ha H' ∧ ∃ q due, σ = [some (.ref d), some (.int p), some (.int n), some (.int (rnd n)), some (.int (p ^ (4 + rnd n).toNat)), some (.int (p ^ (4 : Int).toNat * (p ^ (rnd n).toNat - (p - 1) ^ (rnd n).toNat))), some (.ref t), q, due, none]) ⟨same_refl _, none, none, rfl⟩ (fun i σ H' hI => sl_of (hI.1 _ _ ea)) ?_ ?_
      · rintro i x hx σ H' ⟨sH, q, due, rfl⟩
        obtain ⟨q, rfl, q1, q2⟩ : ∃ q, x = V.int q ∧ 1 ≤ q ∧ q ≤ 64 := by
          match i, hx with
          | 0, hx => cases hx; exact ⟨_, rfl, by decide, by decide⟩
          | 1, hx => cases hx; exact ⟨_, rfl, by decide, by decide⟩
          | 2, hx => cases hx; exact ⟨_, rfl, by omega, by omega⟩
          | n + 3, hx => cases hx
        have tH := sH _ _ (sa _ _ t9)
        obtain ⟨r1, r2, r3, r4⟩ := short_facts p hp n hn
        obtain ⟨v1, v2⟩ := short_muls p hp n hn q.toNat (by omega) (by omega)
        obtain ⟨v3, v4, v5⟩ := short_law p hp n hn q (by omega) (by omega)
        walk_at "rd"
        refine ⟨t, prts p n, rfl, Or.inr (st_of tH), r1, 4 * n, q, rfl, r2, by omega, ?_⟩; walk_at "rd"
        refine ⟨v1, r3, 3 * n - 1, q, rfl, r4, by omega, ?_⟩; walk_at "rd"
        refine ⟨v2, _, _, _, rfl, .int _, need_ok hp hn ⟨fun h => ?_, fun i' e _ _ Hb sb => ?_⟩⟩
        · rw [show betw (.int q) 1 64 = true by simp [betw, q1, q2]] at h; cases h
        cases e
        walk_at "rd"
        refine ⟨rfl, _, rfl, ?_⟩
        rw [if_neg (by simp [shortB, bnd, rowsD])]
        refine ⟨_, _, _, rfl, .int _, need_ok hp hn ⟨fun h => ?_, fun i' e _ _ Hc sc => ?_⟩⟩
        · rw [show betw (.int q) 1 64 = true by simp [betw, q1, q2]] at h; cases h
        cases e
        walk_at "rd"
        refine ⟨rfl, _, rfl, ?_⟩
        rw [if_neg (by simp [shortB, bnd, rowsD])]
        have sF := same_trans sH (same_trans sb sc)
        by_cases hq : q < 64
        · rw [if_pos hq]
          refine ⟨_, _, _, rfl, .int _, need_ok hp hn ⟨fun h => ?_, fun i' e _ _ Hd sd => ?_⟩⟩
          · rw [show betw (.int (q + 1)) 1 64 = true by simp [betw]; omega] at h; cases h
          cases e
          walk_at "rd"
          refine ⟨v3, v4, ?_⟩
          rw [if_neg (v5 hq)]
          exact same_trans sF sd
        · rw [if_neg hq]
          exact sF
      · rintro σ H' ⟨sH, q, due, rfl⟩
        walk_at "rd"
        have cH : Kd d l H H' := (Kd.of c8).trans (kd9.trans (Kd.of (same_trans sa sH)))
        have tH := sH _ _ (sa _ _ t9)
        refine ⟨b, d, l, 21, rfl, nd, by decide, by decide, dr9.same (same_trans sa sH), fun y H10 y0 y1 kd10 dr10 => ?_⟩
        have t10 := kd10 _ _ tH td tl
        walk_at "rd"
        refine ⟨by decide, fun a3 ha3 => ⟨⟨_, sl_of upd_same⟩, ?_⟩⟩
        have sb := same_new (o := HO.lst [V.int 0, V.int 1, V.int 20, V.int y]) ha3
        have eb : upd H10 a3 (HO.lst [V.int 0, V.int 1, V.int 20, V.int y]) a3 = _ := upd_same
        generalize upd H10 a3 (HO.lst [V.int 0, V.int 1, V.int 20, V.int y]) = Hb at sb eb ⊢
        refine Lp.list (xs := [V.int 0, V.int 1, V.int 20, V.int y]) (fun i σ H' => Same Hb H' ∧ ∃ due tv, σ = [some (.ref d), some (.int p), some (.int n), some (.int (rnd n)), some (.int (p ^ (4 + rnd n).toNat)), some (.int (p ^ (4 : Int).toNat * (p ^ (rnd n).toNat - (p - 1) ^ (rnd n).toNat))), some (.ref t), q, due, tv]) ⟨same_refl _, due, none, rfl⟩ (fun i σ H' hI => sl_of (hI.1 _ _ eb)) ?_ ?_
        · rintro i x hx σ H2 ⟨sH2, due2, tv, rfl⟩
          obtain ⟨v, rfl, q1, q2⟩ : ∃ q, x = V.int q ∧ 0 ≤ q ∧ q ≤ 20 := by
            match i, hx with
            | 0, hx => cases hx; exact ⟨_, rfl, by decide, by decide⟩
            | 1, hx => cases hx; exact ⟨_, rfl, by decide, by decide⟩
            | 2, hx => cases hx; exact ⟨_, rfl, by decide, by decide⟩
            | 3, hx => cases hx; exact ⟨_, rfl, by omega, by omega⟩
            | n + 4, hx => cases hx
          have tH2 := sH2 _ _ (sb _ _ t10)
          have hb2 : betw (.int v) 0 20 = true := by simp [betw, q1, q2]
          walk_at "rd"
          by_cases hv : 0 < v
          · rw [if_pos hv]
            obtain ⟨z1, z2⟩ := logs_muls p hp n hn v.toNat (by omega)
            have e1 : ((v.toNat : Nat) : Int) = v := by omega
            rw [e1] at z1 z2
            have e2 : logsB p n v = v * (prts p n).sum * rowsD p n ^ (v - 1).toNat := if_pos hv
            refine ⟨t, prts p n, rfl, Or.inr (st_of tH2), ?_⟩
            walk_at "rd"
            refine ⟨z1, rowsD p n, v - 1, rfl, rows_fact p hp n hn, by omega, ?_⟩
            walk_at "rd"
            refine ⟨z2, _, _, _, rfl, .int _, need_ok hp hn ⟨fun h => ?_, fun i' e _ _ Hc sc => ?_⟩⟩
            · rw [hb2] at h; cases h
            cases e
            walk_at "rd"
            refine ⟨rfl, _, rfl, ?_⟩
            rw [if_neg (by simp [e2])]
            refine ⟨_, _, _, rfl, .int _, need_ok hp hn ⟨fun h => ?_, fun i' e _ _ Hd sd => ?_⟩⟩
            · rw [hb2] at h; cases h
            cases e
            walk_at "rd"
            refine ⟨_, _, _, _, true, rfl, .ty _, .base (.int _), kk K "int" "int" true (by decide +kernel), ?_⟩
            walk_at "rd"
            exact same_trans sH2 (same_trans sc sd)
          · rw [if_neg hv]
            have e2 : logsB p n v = 0 := if_neg hv
            refine ⟨_, _, _, rfl, .int _, need_ok hp hn ⟨fun h => ?_, fun i' e _ _ Hc sc => ?_⟩⟩
            · rw [hb2] at h; cases h
            cases e
            walk_at "rd"
            refine ⟨rfl, _, rfl, ?_⟩
            rw [if_neg (by simp [e2])]
            refine ⟨_, _, _, rfl, .int _, need_ok hp hn ⟨fun h => ?_, fun i' e _ _ Hd sd => ?_⟩⟩
            · rw [hb2] at h; cases h
            cases e
            walk_at "rd"
            refine ⟨_, _, _, _, true, rfl, .ty _, .base (.int _), kk K "int" "int" true (by decide +kernel), ?_⟩
            walk_at "rd"
            exact same_trans sH2 (same_trans sc sd)
        · rintro σ H2 ⟨sH2, due2, tv, rfl⟩
          walk_at "rd"
          exact k _ (cH.trans (kd10.trans (Kd.of (same_trans sb sH2)))) (dr10.same (same_trans sb sH2))

end
end K27
set_option Elab.async false
set_option linter.all false
set_option maxRecDepth 100000
set_option maxHeartbeats 4000000


namespace K27
open PySem PySem.Spec L2 LamX Jud
open PyProof.Rows hiding St wpAt
local macro_rules | `(tactic| walk_at "rd") => `(tactic| try simp only [tSeq, tAsg, gName, tVar, tC, tOp, tUn, rI0, rI, rU, tDef, tCons, tNil, tRet, tIfS, tTest, tB, tNot, tAnd, tOr, tIf, tPar, tDrop, tNext, tAndV, tOrV, tNotV, tCB, tChain, tBM, tBM0, tTup, tLst, cx_K, clo_K, L2.start, List.map_cons, List.map_nil, List.length_cons, List.length_nil, Nat.reduceAdd, Nat.reduceSub, List.replicate_succ, List.replicate_zero, List.cons_append, List.nil_append, List.append_nil, List.set_cons_zero, List.set_cons_succ, List.getElem?_cons_zero, List.getElem?_cons_succ, Option.some.injEq, V.int.injEq, V.bl.injEq, V.str.injEq, V.ref.injEq, List.cons.injEq, exists_eq_left', exists_eq_left, exists_and_left, and_true, true_and, exists_eq', Bool.false_eq_true, if_false, if_true, decide_eq_true_eq, Bool.not_false, Bool.not_true, tMkErr, tG, tFor_r1, tFor_r2, tFor_l, tFor_t, and_assoc, tLc_l, tLc_t, tLc_r1, tLc_r2, wipe, tDGet, sDPut, List.getElem?_nil, tDisp, tPairs, tYes, tErrF, tDefK, C8.tCut, cx_P, cx_W, cx_Mg, cx_Base, clo_P, clo_W, clo_Mg, clo_Base, gTup, gCons, gNil])
theorem NeedS.imp {cN cF : Addr} {x y : V} {H : Hp} {E : XK} {ok ok' : Int → Int → Prop} (h : NeedS cN cF x y H E ok) (i : ∀ p n, p ∈ FL → n ∈ szs p → ok p n → ok' p n) : NeedS cN cF x y H E ok' :=
  ⟨h.1, h.2.1, h.2.2.1, fun p e hp => ⟨(h.2.2.2 p e hp).1, fun n e2 hn => i p n hp hn ((h.2.2.2 p e hp).2 n e2 hn)⟩⟩
def Work2 (P : Program) (w : World) (K : PySem.W.Frag) (mg : Str → Option Value) (base : Heap) (cN cF f : Addr) : Prop := ∃ ps sp, IsFn P w K mg base 7 f ps sp ∧ ∀ x y H Q E, NeedS cN cF x y H E (fun _ _ => False) → sp [x, y] H Q E
def Work3 (P : Program) (w : World) (K : PySem.W.Frag) (mg : Str → Option Value) (base : Heap) (cN cF f : Addr) (lo hi : Int) (part : Str) : Prop := ∃ ps sp, IsFn P w K mg base 7 f ps sp ∧ ∀ x y q H Q E, AnyV H q → NeedS cN cF x y H E (fun _ _ => betw q lo hi = false ∧ ErrW cN "part" (.str part) H E) → sp [x, y, q] H Q E
theorem errW_of {b : Nat} {d l cN : Addr} {H0 : Hp} {E : XK} {p : Str} (dr : Draw b H0 d l) (h : ∀ c d' H1, (c = .ref cN ∧ ∃ dd, d' = some dd ∧ H1 dd = some (.xd [("part", .str p)]) ∧ Kd d l H0 H1 ∧ Draw b H1 d l) → E c d' H1) : ErrW cN "part" (.str p) H0 E :=
  fun dd H1 hd se e => h _ _ _ ⟨rfl, dd, rfl, e, Kd.of se, dr.same se⟩
theorem err0_of {b : Nat} {d l cF : Addr} {H0 : Hp} {E : XK} (dr : Draw b H0 d l) (h : ∀ c d' H1, (c = .ref cF ∧ d' = none ∧ Kd d l H0 H1 ∧ Draw b H1 d l) → E c d' H1) : Err0 cF H0 E :=
  fun H1 se => h _ _ _ ⟨rfl, rfl, Kd.of se, dr.same se⟩
theorem need_badSize {cN cF : Addr} {p : Int} {y : V} {H : Hp} {E : XK} {ok : Int → Int → Prop} (hp : p ∈ FL) (hy : isSz p y = false) (ay : AnyV H y) (h : ErrW cN "part" (.str "n") H E) : NeedS cN cF (.int p) y H E ok :=
  ⟨.int p, ay, fun z => (by rw [FL_isF p hp] at z; cases z), fun p' e hp' => by
    cases e
    refine ⟨fun _ => h, fun n e hn => ?_⟩
    subst e
    have z2 : (szs p).contains n = true := by simpa using hn
    have z3 : (szs p).contains n = false := hy
    rw [z2] at z3; cases z3⟩
theorem need_badField {cN cF : Addr} {x y : V} {H : Hp} {E : XK} {ok : Int → Int → Prop} (hx : isF x = false) (ax : AnyV H x) (ay : AnyV H y) (h : Err0 cF H E) : NeedS cN cF x y H E ok :=
  ⟨ax, ay, fun _ => h, fun p e hp => by
    subst e
    rw [FL_isF p hp] at hx; cases hx⟩
def tabL (lt : Nat → Addr × Addr) : List (Addr × Str) := [((lt 0).2, (envOfC "_law_refused_right" (defScope s_law_refused_right) 0 0 .none).qual ++ "<lambda>")]
structure TxL (K : PySem.W.Frag) (mg : Str → Option Value) (base : Heap) (lt : Nat → Addr × Addr) : Prop where
  c_law_refused_right : ∃ f, At K mg "_law_refused_right" s_law_refused_right f (.ref (lt 0).1)
  b_law_refused_right : TabB base mg (lt 0).1 (lt 0).2
  m_law_refused_right : ((lt 0).2, (envOfC "_law_refused_right" (defScope s_law_refused_right) 0 0 .none).qual ++ "<lambda>") ∈ tabL lt
  u_law_refused_right : ∀ p ∈ tabL lt, p.1 = (lt 0).2 → p.2 = (envOfC "_law_refused_right" (defScope s_law_refused_right) 0 0 .none).qual ++ "<lambda>"
section
variable {P : Program} {w : World} {K : PySem.W.Frag} {mg : Str → Option Value} {base : Heap} {cJ cN cF : Addr} {lt : Nat → Addr × Addr}
theorem tl_work2 {cN cF fw : Addr} {i j : Nat} {x y : V} {σ : St} {H0 : Hp} {Pe : XK} (W : Work2 P w K mg base cN cF fw) (h8 : σ[8]? = some (some (.ref fw))) (hi : σ[i]? = some (some x)) (hj : σ[j]? = some (some y))
    (h : ∀ E : XK, (∀ c d H1, Pe c d H1 → E c d H1) → NeedS cN cF x y H0 E (fun _ _ => False)) : TlW (fun E' H' Q' => tCallV P w K mg base 8 8 E' (tCons (tVar i) (tCons (tVar j) tNil)) σ H' Q') H0 Pe NoV := fun E Q hE hQ => by
  obtain ⟨ps, sp, F, hs⟩ := W
  exact ⟨fw, ps, sp, h8, F.mono (by decide), x, hi, y, hj, hs _ _ _ _ _ (h E hE)⟩
theorem tl_work3 {cN cF fw : Addr} {lo hi : Int} {part : Str} {i j m : Nat} {x y q : V} {σ : St} {H0 : Hp} {Pe : XK} (W : Work3 P w K mg base cN cF fw lo hi part) (h8 : σ[8]? = some (some (.ref fw))) (hi' : σ[i]? = some (some x)) (hj : σ[j]? = some (some y)) (hm : σ[m]? = some (some q)) (aq : AnyV H0 q)
    (h : ∀ E : XK, (∀ c d H1, Pe c d H1 → E c d H1) → NeedS cN cF x y H0 E (fun _ _ => betw q lo hi = false ∧ ErrW cN "part" (.str part) H0 E)) : TlW (fun E' H' Q' => tCallV P w K mg base 8 8 E' (tCons (tVar i) (tCons (tVar j) (tCons (tVar m) tNil))) σ H' Q') H0 Pe NoV := fun E Q hE hQ => by
  obtain ⟨ps, sp, F, hs⟩ := W
  exact ⟨fw, ps, sp, h8, F.mono (by decide), x, hi', y, hj, q, hm, hs _ _ _ _ _ _ aq (h E hE)⟩
def sp_law_refused_right (lt : Nat → Addr × Addr) : Sp := fun vs H Q _ => ∃ (b : Nat) (d l : Addr) (p n : Int), vs = [.ref d, .int p, .int n] ∧ d ≠ l ∧ Draw (b + 5) H d l ∧ Tabs (tabL lt) H ∧ p ∈ FL ∧ n ∈ szs p ∧ ∀ H', KdN d l H H' → Draw b H' d l → Tabs (tabL lt) H' → Q (.bl true) H'
theorem last_most : ∀ p ∈ FL, atI (vI (szs p)) (-1) = some (.int (mostR p)) := by
  intro p hp
  simp only [FL, List.mem_cons, List.not_mem_nil, or_false] at hp
  rcases hp with rfl | rfl | rfl | rfl | rfl | rfl | rfl <;> rfl
theorem most_mul : ∀ p ∈ FL, CMulW 2 (mostR p) := by decide +kernel
theorem szs_log : ∀ p ∈ FL, ∀ n ∈ szs p, n.natAbs.log2 < 1920 := by decide +kernel
theorem bad_sizes : ∀ p ∈ FL, ∀ n ∈ szs p, isSz p (.int 0) = false ∧ isSz p (.int 1) = false ∧ isSz p (.int 3) = false ∧ isSz p (.int (n + 1)) = false ∧ isSz p (.int (2 * mostR p)) = false ∧ isSz p (.int (-n)) = false := by decide +kernel
theorem d_law_refused_right (T : Txt P K mg cJ cN cF) (TL : TxL K mg base lt) : Def P w K mg base 14 "_law_refused_right" ["draw", "p", "n"] (sp_law_refused_right lt) := by
  refine Def.of T.t_law_refused_right bi_law_refused_right sc_law_refused_right (fun vs H Q E h => ?_) (fun f cdv A outer s H vs Q E at_ hr h => ?_)
  · obtain ⟨b, d, l, p, n, rfl, nd, hd, hT, hp, hn, k⟩ := h
    rfl
  · obtain ⟨b, d, l, p, n, rfl, nd, hd, hT, hp, hn, k⟩ := h
    have hu := hu_of hr.room
    have TLx := TL.c_law_refused_right
    obtain ⟨_, TLx⟩ := TLx
    obtain rfl := At.uniq TLx at_
    obtain ⟨f_draw_rows, h_draw_rows, i_draw_rows⟩ := (d_draw_rows (w := w) (base := base) T).ex
    obtain ⟨f_bound_parts, h_bound_parts, i_bound_parts⟩ := (d_bound_parts (w := w) (base := base) T).ex
    obtain ⟨f_bound, h_bound, i_bound⟩ := (d_bound (w := w) (base := base) T).ex
    obtain ⟨f_one_row_zeros, h_one_row_zeros, i_one_row_zeros⟩ := (d_one_row_zeros (w := w) (base := base) T).ex
    obtain ⟨f_short_bound, h_short_bound, i_short_bound⟩ := (d_short_bound (w := w) (base := base) T).ex
    obtain ⟨f_logs_bound, h_logs_bound, i_logs_bound⟩ := (d_logs_bound (w := w) (base := base) T).ex
    refine ⟨_, (pss_cons (ps_set (i := 3) sc_law_refused_right.nd rfl (Or.inl rfl) (pe_ix ix_seq (pe_def (d_law_sizes_of T) (hr.mono (by decide)) p0 (pa_cons (pv 1) pa_nil)) (pe_un un_neg pe_int) (fun _ _ => rfl)))
       (pss_cons (ps_set (i := 4) sc_law_refused_right.nd rfl (Or.inr rfl) (pe_def (d_law_pick T) (hr.mono (by decide)) p0 (pa_cons (pv 0) (pa_cons (pe_lst (pa_cons pe_int (pa_cons pe_int (pa_cons pe_int (pa_cons (pe_op op_add (pv 2) pe_int) (pa_cons (pe_op op_mulW pe_int (pv 3)) (pa_cons (pe_un un_neg (pv 2)) (pa_cons pe_bl (pa_cons pe_non (pa_cons (pe_callTy call_str_int rfl T.n_str boot_str (pa_cons (pv 2) pa_nil)) (pa_cons (pe_tup (pa_cons (pv 2) pa_nil)) (pa_cons (pe_lst (pa_cons (pv 2) pa_nil)) pa_nil)))))))))))) pa_nil))))
       (pss_cons (ps_set (i := 5) sc_law_refused_right.nd rfl (Or.inr rfl) (pe_def (d_law_pick T) (hr.mono (by decide)) p0 (pa_cons (pv 0) (pa_cons (pe_lst (pa_cons pe_int (pa_cons pe_int (pa_cons pe_int (pa_cons pe_int (pa_cons pe_bl (pa_cons pe_non (pa_cons pe_str (pa_cons (pe_tup (pa_cons pe_int pa_nil)) (pa_cons (pe_un un_neg pe_int) (pa_cons pe_int pa_nil))))))))))) pa_nil))))
       (pss_cons (ps_par (i := 6) (j := 7) (by rfl) sc_law_refused_right.nd rfl rfl (by decide) rfl rfl (pa_cons (pe_def (d_law_pick T) (hr.mono (by decide)) p0 (pa_cons (pv 0) (pa_cons (pe_lst (pa_cons pe_int (pa_cons pe_int (pa_cons (pe_un un_neg pe_int) (pa_cons pe_bl (pa_cons pe_non (pa_cons pe_str (pa_cons (pe_tup (pa_cons pe_int pa_nil)) (pa_cons (pe_op op_pow pe_int pe_int) pa_nil))))))))) pa_nil))) (pa_cons (pe_def (d_law_pick T) (hr.mono (by decide)) p0 (pa_cons (pv 0) (pa_cons (pe_lst (pa_cons pe_int (pa_cons (pe_un un_neg pe_int) (pa_cons pe_bl (pa_cons pe_non (pa_cons pe_str (pa_cons (pe_tup (pa_cons pe_int pa_nil)) (pa_cons (pe_op op_pow pe_int pe_int) pa_nil)))))))) pa_nil))) pa_nil)) (by rfl))
       (pss_cons (ps_for (passes_of rfl) rfl (pi_list (pe_lst (pa_cons (pe_glob (v := .ref f_draw_rows) rfl h_draw_rows rfl) (pa_cons (pe_glob (v := .ref f_bound_parts) rfl h_bound_parts rfl) (pa_cons (pe_glob (v := .ref f_bound) rfl h_bound rfl) (pa_cons (pe_glob (v := .ref f_one_row_zeros) rfl h_one_row_zeros rfl) pa_nil)))))) (pg_name (i := 8) sc_law_refused_right.nd rfl (Or.inr rfl))
       (pss_cons (ps_if (pt_not (pt_val (pe_lam (T := tabL lt) (k := 10) (d_law_is_bad T) (hr.mono (by decide)) p0 TL.b_law_refused_right rfl TL.m_law_refused_right TL.u_law_refused_right (lamS_by (sc := defScope s_law_refused_right) (by decide +kernel)) rfl (fun _ _ _ _ _ => rfl) (fun _ => rfl) (fun A outer s H E f c' cl hr => (pe_callVl (k := 8) (i := 8) (hr.mono (by decide)) pxl (by rfl) (by first | exact Or.inl rfl | exact Or.inr (Or.inl rfl) | exact Or.inr (Or.inr rfl)) (pa_cons (pv 1) (pa_cons (pv 4) pa_nil)))) (pa_cons pe_str pa_nil))))
       (pss_one (ps_ret pe_bl))
       pss_nil)
       (pss_one (ps_if (pt_not (pt_val (pe_callB call_isi2 rfl T.n_isinstance boot_isinstance (pa_cons (pe_lam (T := tabL lt) (k := 10) (d_law_caught T) (hr.mono (by decide)) p0 TL.b_law_refused_right rfl TL.m_law_refused_right TL.u_law_refused_right (lamS_by (sc := defScope s_law_refused_right) (by decide +kernel)) rfl (fun _ _ _ _ _ => rfl) (fun _ => rfl) (fun A outer s H E f c' cl hr => (pe_callVl (k := 8) (i := 8) (hr.mono (by decide)) pxl (by rfl) (by first | exact Or.inl rfl | exact Or.inr (Or.inl rfl) | exact Or.inr (Or.inr rfl)) (pa_cons (pv 5) (pa_cons (pv 4) pa_nil)))) pa_nil) (pa_cons (pe_glob (v := .ref _) rfl T.c_BadField.gC rfl) pa_nil)))))
       (pss_one (ps_ret pe_bl))
       pss_nil))))
       (pss_cons (ps_for (passes_of rfl) rfl (pi_list (pe_lst (pa_cons (pe_tup (pa_cons (pe_glob (v := .ref f_short_bound) rfl h_short_bound rfl) (pa_cons (pv 6) (pa_cons pe_str pa_nil)))) (pa_cons (pe_tup (pa_cons (pe_glob (v := .ref f_logs_bound) rfl h_logs_bound rfl) (pa_cons (pv 7) (pa_cons pe_str pa_nil)))) pa_nil)))) (pg_tup (n := 3) (by rfl) (pgs_cons (pg_name (i := 8) sc_law_refused_right.nd rfl (Or.inr rfl)) (pgs_cons (pg_name (i := 9) sc_law_refused_right.nd rfl (Or.inr rfl)) (pgs_cons (pg_name (i := 10) sc_law_refused_right.nd rfl (Or.inl rfl)) pgs_nil))))
       (pss_cons (ps_if (pt_not (pt_val (pe_callB call_isi2 rfl T.n_isinstance boot_isinstance (pa_cons (pe_lam (T := tabL lt) (k := 10) (d_law_caught T) (hr.mono (by decide)) p0 TL.b_law_refused_right rfl TL.m_law_refused_right TL.u_law_refused_right (lamS_by (sc := defScope s_law_refused_right) (by decide +kernel)) rfl (fun _ _ _ _ _ => rfl) (fun _ => rfl) (fun A outer s H E f c' cl hr => (pe_callVl (k := 8) (i := 8) (hr.mono (by decide)) pxl (by rfl) (by first | exact Or.inl rfl | exact Or.inr (Or.inl rfl) | exact Or.inr (Or.inr rfl)) (pa_cons (pv 5) (pa_cons (pv 4) (pa_cons (pv 9) pa_nil))))) pa_nil) (pa_cons (pe_glob (v := .ref _) rfl T.c_BadField.gC rfl) pa_nil)))))
       (pss_one (ps_ret pe_bl))
       pss_nil)
       (pss_cons (ps_if (pt_not (pt_val (pe_lam (T := tabL lt) (k := 10) (d_law_is_bad T) (hr.mono (by decide)) p0 TL.b_law_refused_right rfl TL.m_law_refused_right TL.u_law_refused_right (lamS_by (sc := defScope s_law_refused_right) (by decide +kernel)) rfl (fun _ _ _ _ _ => rfl) (fun _ => rfl) (fun A outer s H E f c' cl hr => (pe_callVl (k := 8) (i := 8) (hr.mono (by decide)) pxl (by rfl) (by first | exact Or.inl rfl | exact Or.inr (Or.inl rfl) | exact Or.inr (Or.inr rfl)) (pa_cons (pv 1) (pa_cons (pv 4) (pa_cons (pv 9) pa_nil))))) (pa_cons pe_str pa_nil))))
       (pss_one (ps_ret pe_bl))
       pss_nil)
       (pss_one (ps_if (pt_not (pt_val (pe_lam (T := tabL lt) (k := 10) (d_law_is_bad T) (hr.mono (by decide)) p0 TL.b_law_refused_right rfl TL.m_law_refused_right TL.u_law_refused_right (lamS_by (sc := defScope s_law_refused_right) (by decide +kernel)) rfl (fun _ _ _ _ _ => rfl) (fun _ => rfl) (fun A outer s H E f c' cl hr => (pe_callVl (k := 8) (i := 8) (hr.mono (by decide)) pxl (by rfl) (by first | exact Or.inl rfl | exact Or.inr (Or.inl rfl) | exact Or.inr (Or.inr rfl)) (pa_cons (pv 1) (pa_cons (pv 2) (pa_cons (pv 9) pa_nil))))) (pa_cons (pv 10) pa_nil))))
       (pss_one (ps_ret pe_bl))
       pss_nil)))))
       (pss_one (ps_ret (pe_lam (T := tabL lt) (k := 10) (d_law_is_bad T) (hr.mono (by decide)) p0 TL.b_law_refused_right rfl TL.m_law_refused_right TL.u_law_refused_right (lamS_by (sc := defScope s_law_refused_right) (by decide +kernel)) rfl (fun _ _ _ _ _ => rfl) (fun _ => rfl) (fun A outer s H E f c' cl hr => (pe_def (d_void_most T) (hr.mono (by decide)) pxl (pa_cons (pe_def (d_law_pick T) (hr.mono (by decide)) p0 (pa_cons (pv 0) (pa_cons (pe_lst (pa_cons pe_int (pa_cons pe_int (pa_cons pe_int (pa_cons pe_int (pa_cons pe_int (pa_cons pe_bl (pa_cons pe_non (pa_cons pe_str (pa_cons (pe_tup (pa_cons pe_int pa_nil)) (pa_cons (pe_un un_neg pe_int) pa_nil))))))))))) pa_nil))) pa_nil))) (pa_cons pe_str pa_nil)))))))))), ?_⟩
    walk_at "rd"
    obtain ⟨f1, f2, f3, f4, f5⟩ := szs_facts p hp n hn
    refine ⟨p, rfl, hp, fun al H1 hal s1 e1 => ?_⟩
    refine sql_ix (sl_of e1) (i := -1) (last_most p hp) ?_
    walk_at "rd"
    refine ⟨most_mul p hp, szs_log p hp n hn, by decide, fun p1 hp1 => ⟨by decide, fun p2 hp2 => ⟨by decide, fun p3 hp3 => ?_⟩⟩⟩
    have dr1 := hd.same s1
    have sa := same_new (o := HO.tup [V.int n]) hp1
    have sb := same_trans sa (same_new (o := HO.lst [V.int n]) hp2)
    have sc := same_trans sb (same_new (o := HO.lst [V.int 0, V.int 1, V.int 3, V.int (n + 1), V.int (2 * mostR p), V.int (-n), V.bl true, V.non, V.str ↑(toString n), V.ref p1, V.ref p2]) hp3)
    obtain ⟨n11, n12⟩ := dr1.fresh hp1
    obtain ⟨n21, n22⟩ := (dr1.same sa).fresh hp2
    obtain ⟨n31, n32⟩ := (dr1.same sb).fresh hp3
    refine ⟨b + 4, d, l, p3, _, rfl, nd, upd_same, n31, n32, by simp, by show 11 < 1000; decide, dr1.same sc, fun size H2 hv kd2 dr2 => ?_⟩
    have k2 : Kd d l H H2 := (Kd.of (same_trans s1 sc)).trans kd2
    have av2 : AnyD d l H2 size ∧ isSz p size = false := by
      obtain ⟨z1, z2, z3, z4, z5, z6⟩ := bad_sizes p hp n hn
      have ep1 : H2 p1 = some (.tup [V.int n]) := kd2 _ _ ((same_trans (same_new hp2) (same_new hp3)) _ _ upd_same) n11 n12
      have ep2 : H2 p2 = some (.lst [V.int n]) := kd2 _ _ ((same_new hp3) _ _ upd_same) n21 n22
      simp only [List.mem_cons, List.not_mem_nil, or_false] at hv
      rcases hv with rfl | rfl | rfl | rfl | rfl | rfl | rfl | rfl | rfl | rfl | rfl
      · exact ⟨.int _, z1⟩
      · exact ⟨.int _, z2⟩
      · exact ⟨.int _, z3⟩
      · exact ⟨.int _, z4⟩
      · exact ⟨.int _, z5⟩
      · exact ⟨.int _, z6⟩
      · exact ⟨.bl _, rfl⟩
      · exact ⟨.non, rfl⟩
      · exact ⟨.str _, rfl⟩
      · exact ⟨.tup ep1 n11 n12, rfl⟩
      · exact ⟨.lst ep2 n21 n22, rfl⟩
    clear hv kd2 sc sb sa hp3 hp2 hp1 n31 n32 n21 n22 n11 n12 e1 hal s1 dr1
    walk_at "rd"
    refine ⟨by decide, fun p1 hp1 => ⟨by decide, fun p2 hp2 => ?_⟩⟩
    have sa := same_new (o := HO.tup [V.int 41]) hp1
    have sb := same_trans sa (same_new (o := HO.lst [V.int 0, V.int 2, V.int 43, V.int 40960, V.bl true, V.non, V.str "41", V.ref p1, V.int (-41), V.int 65537]) hp2)
    obtain ⟨n11, n12⟩ := dr2.fresh hp1
    obtain ⟨n21, n22⟩ := (dr2.same sa).fresh hp2
    refine ⟨b + 3, d, l, p2, _, rfl, nd, upd_same, n21, n22, by simp, by show 10 < 1000; decide, dr2.same sb, fun fld H3 hv kd3 dr3 => ?_⟩
    have k3 : Kd d l H2 H3 := (Kd.of sb).trans kd3
    have av3 : AnyD d l H3 fld ∧ isF fld = false := by
      have ep1 : H3 p1 = some (.tup [V.int 41]) := kd3 _ _ ((same_new hp2) _ _ upd_same) n11 n12
      simp only [List.mem_cons, List.not_mem_nil, or_false] at hv
      rcases hv with rfl | rfl | rfl | rfl | rfl | rfl | rfl | rfl | rfl | rfl
      · exact ⟨.int _, by decide⟩
      · exact ⟨.int _, by decide⟩
      · exact ⟨.int _, by decide⟩
      · exact ⟨.int _, by decide⟩
      · exact ⟨.bl _, rfl⟩
      · exact ⟨.non, rfl⟩
      · exact ⟨.str _, rfl⟩
      · exact ⟨.tup ep1 n11 n12, rfl⟩
      · exact ⟨.int _, by decide⟩
      · exact ⟨.int _, by decide⟩
    clear hv kd3 sb sa hp2 hp1 n21 n22 n11 n12
    walk_at "rd"
    refine ⟨by decide, fun p1 hp1 => ⟨by decide, by decide, fun p2 hp2 => ?_⟩⟩
    have sa := same_new (o := HO.tup [V.int 1]) hp1
    have sb := same_trans sa (same_new (o := HO.lst [V.int 0, V.int 65, V.int (-1), V.bl true, V.non, V.str "1", V.ref p1, V.int (10 ^ (20 : Int).toNat)]) hp2)
    obtain ⟨n11, n12⟩ := dr3.fresh hp1
    obtain ⟨n21, n22⟩ := (dr3.same sa).fresh hp2
    refine ⟨b + 2, d, l, p2, _, rfl, nd, upd_same, n21, n22, by simp, by show 8 < 1000; decide, dr3.same sb, fun vq H4 hv kd4 dr4 => ?_⟩
    have k4 : Kd d l H3 H4 := (Kd.of sb).trans kd4
    have av4 : AnyD d l H4 vq ∧ betw vq 1 64 = false := by
      have ep1 : H4 p1 = some (.tup [V.int 1]) := kd4 _ _ ((same_new hp2) _ _ upd_same) n11 n12
      simp only [List.mem_cons, List.not_mem_nil, or_false] at hv
      rcases hv with rfl | rfl | rfl | rfl | rfl | rfl | rfl | rfl
      · exact ⟨.int _, by decide⟩
      · exact ⟨.int _, by decide⟩
      · exact ⟨.int _, by decide⟩
      · exact ⟨.bl _, rfl⟩
      · exact ⟨.non, rfl⟩
      · exact ⟨.str _, rfl⟩
      · exact ⟨.tup ep1 n11 n12, rfl⟩
      · exact ⟨.int _, by decide⟩
    clear hv kd4 sb sa hp2 hp1 n21 n22 n11 n12
    walk_at "rd"
    refine ⟨by decide, fun p1 hp1 => ⟨by decide, by decide, fun p2 hp2 => ?_⟩⟩
    have sa := same_new (o := HO.tup [V.int 1]) hp1
    have sb := same_trans sa (same_new (o := HO.lst [V.int 21, V.int (-1), V.bl true, V.non, V.str "1", V.ref p1, V.int (10 ^ (20 : Int).toNat)]) hp2)
    obtain ⟨n11, n12⟩ := dr4.fresh hp1
    obtain ⟨n21, n22⟩ := (dr4.same sa).fresh hp2
    refine ⟨b + 1, d, l, p2, _, rfl, nd, upd_same, n21, n22, by simp, by show 7 < 1000; decide, dr4.same sb, fun vt H5 hv kd5 dr5 => ?_⟩
    have k5 : Kd d l H4 H5 := (Kd.of sb).trans kd5
    have av5 : AnyD d l H5 vt ∧ betw vt 0 20 = false := by
      have ep1 : H5 p1 = some (.tup [V.int 1]) := kd5 _ _ ((same_new hp2) _ _ upd_same) n11 n12
      simp only [List.mem_cons, List.not_mem_nil, or_false] at hv
      rcases hv with rfl | rfl | rfl | rfl | rfl | rfl | rfl
      · exact ⟨.int _, by decide⟩
      · exact ⟨.int _, by decide⟩
      · exact ⟨.bl _, rfl⟩
      · exact ⟨.non, rfl⟩
      · exact ⟨.str _, rfl⟩
      · exact ⟨.tup ep1 n11 n12, rfl⟩
      · exact ⟨.int _, by decide⟩
    clear hv kd5 sb sa hp2 hp1 n21 n22 n11 n12
    have kA : Kd d l H H5 := ((k2.trans k3).trans k4).trans k5
    have TA : Tabs (tabL lt) H5 := tabs_kd hT hd kA
    have b2 : AnyD d l H5 size := av2.1.kd (KdN.of ((k3.trans k4).trans k5))
    have b3 : AnyD d l H5 fld := av3.1.kd (KdN.of (k4.trans k5))
    have b4 : AnyD d l H5 vq := av4.1.kd (KdN.of k5)
    have b5 : AnyD d l H5 vt := av5.1
    have c2 := av2.2
    have c3 := av3.2
    have c4 := av4.2
    have c5 := av5.2
    clear av2 av3 av4 av5 k2 k3 k4 k5 dr2 dr3 dr4
    walk_at "rd"
    refine ⟨by decide, fun a ha => ⟨⟨_, sl_of upd_same⟩, ?_⟩⟩
    have sa := same_new (o := HO.lst [V.ref f_draw_rows, V.ref f_bound_parts, V.ref f_bound, V.ref f_one_row_zeros]) ha
    have ea : upd H5 a (HO.lst [V.ref f_draw_rows, V.ref f_bound_parts, V.ref f_bound, V.ref f_one_row_zeros]) a = _ := upd_same
    obtain ⟨na1, na2⟩ := dr5.fresh ha
    have dra := dr5.same sa
    generalize upd H5 a (HO.lst [V.ref f_draw_rows, V.ref f_bound_parts, V.ref f_bound, V.ref f_one_row_zeros]) = Ha at sa ea dra ⊢
    refine Lp.list (xs := [V.ref f_draw_rows, V.ref f_bound_parts, V.ref f_bound, V.ref f_one_row_zeros]) (fun i σ H' => KdN d l Ha H' ∧ Tabs (tabL lt) H' ∧ Draw (b + 1) H' d l ∧ ∃ wk, σ = [some (.ref d), some (.int p), some (.int n), some (.int (mostR p)), some size, some fld, some vq, some vt, wk, none, none]) ⟨KdN.refl, tabs_kd TA dr5 (Kd.of sa), dra, none, rfl⟩ (fun i σ H' hI => sl_of (hI.1 _ _ ea na1 na2 fun ps z => nomatch z)) ?_ ?_
    · rintro i x hx σ H' ⟨kH, tH, dH, wk, rfl⟩
      obtain ⟨fw, rfl, W⟩ : ∃ fw, x = V.ref fw ∧ Work2 P w K mg base cN cF fw := by
        match i, hx with
        | 0, hx => cases hx; exact ⟨_, rfl, _, _, i_draw_rows, fun x y H Q E h => ⟨x, y, rfl, h.imp fun _ _ _ _ z => z.elim⟩⟩
        | 1, hx => cases hx; exact ⟨_, rfl, _, _, i_bound_parts, fun x y H Q E h => ⟨x, y, rfl, h.imp fun _ _ _ _ z => z.elim⟩⟩
        | 2, hx => cases hx; exact ⟨_, rfl, _, _, i_bound, fun x y H Q E h => ⟨x, y, rfl, h.imp fun _ _ _ _ z => z.elim⟩⟩
        | 3, hx => cases hx; exact ⟨_, rfl, _, _, i_one_row_zeros, fun x y H Q E h => ⟨x, y, rfl, h.imp fun _ _ _ _ z => z.elim⟩⟩
        | n + 4, hx => cases hx
      walk_at "rd"
      have a2 := b2.kd ((KdN.of (Kd.of sa)).trans kH)
      have a3 := b3.kd ((KdN.of (Kd.of sa)).trans kH)
      refine lam_bad (b' := b + 1) tH dH (fun H1 R r => r) (by decide) (by decide +kernel) (fun H0 e0 => tl_work2 W rfl rfl rfl fun E hE => need_badSize hp c2 (a2.a.extN e0) (errW_of (dH.ext e0) hE)) (fun H2 k2 t2 d2 => ?_)
      walk_at "rd"
      refine lam_caught (b' := b + 1) t2 d2 T.e_F (fun H1 R r => r) (fun H0 e0 => tl_work2 W rfl rfl rfl fun E hE => need_badField c3 ((a3.kd k2).a.extN e0) ((a2.kd k2).a.extN e0) (err0_of (d2.ext e0) hE)) (fun e H3 k3 t3 d3 he => ?_)
      refine Or.inr ⟨e, cF, none, .ref cF, .ref cF, true, rfl, he, Or.inl rfl, T.x_BadField, .own _, T.i_FF, ?_⟩
      walk_at "rd"
      exact ⟨(kH.trans k2).trans k3, t3, d3⟩
    · rintro σ H' ⟨kH, tH, dH, wk, rfl⟩
      walk_at "rd"
      refine ⟨by decide, fun p1 hp1 => ⟨by decide, fun p2 hp2 => ⟨by decide, fun p3 hp3 => ⟨⟨_, sl_of upd_same⟩, ?_⟩⟩⟩⟩
      have s1 := same_new (o := HO.tup [V.ref f_short_bound, vq, V.str "q"]) hp1
      have s2 := same_trans s1 (same_new (o := HO.tup [V.ref f_logs_bound, vt, V.str "t"]) hp2)
      have s3 := same_trans s2 (same_new (o := HO.lst [V.ref p1, V.ref p2]) hp3)
      obtain ⟨n11, n12⟩ := dH.fresh hp1
      obtain ⟨n21, n22⟩ := (dH.same s1).fresh hp2
      obtain ⟨n31, n32⟩ := (dH.same s2).fresh hp3
      have g1 : upd (upd (upd H' p1 (HO.tup [V.ref f_short_bound, vq, V.str "q"])) p2 (HO.tup [V.ref f_logs_bound, vt, V.str "t"])) p3 (HO.lst [V.ref p1, V.ref p2]) p1 = some (.tup [V.ref f_short_bound, vq, V.str "q"]) := (same_trans (same_new hp2) (same_new hp3)) _ _ upd_same
      have g2 : upd (upd (upd H' p1 (HO.tup [V.ref f_short_bound, vq, V.str "q"])) p2 (HO.tup [V.ref f_logs_bound, vt, V.str "t"])) p3 (HO.lst [V.ref p1, V.ref p2]) p2 = some (.tup [V.ref f_logs_bound, vt, V.str "t"]) := (same_new hp3) _ _ upd_same
      have g3 : upd (upd (upd H' p1 (HO.tup [V.ref f_short_bound, vq, V.str "q"])) p2 (HO.tup [V.ref f_logs_bound, vt, V.str "t"])) p3 (HO.lst [V.ref p1, V.ref p2]) p3 = some (.lst [V.ref p1, V.ref p2]) := upd_same
      generalize upd (upd (upd H' p1 (HO.tup [V.ref f_short_bound, vq, V.str "q"])) p2 (HO.tup [V.ref f_logs_bound, vt, V.str "t"])) p3 (HO.lst [V.ref p1, V.ref p2]) = Hb at s3 g1 g2 g3 ⊢
      have kB : KdN d l H5 Hb := ((KdN.of (Kd.of sa)).trans kH).trans (KdN.of (Kd.of s3))
      have dB := dH.same s3
      refine Lp.list (xs := [V.ref p1, V.ref p2]) (fun i σ H' => KdN d l Hb H' ∧ Tabs (tabL lt) H' ∧ Draw (b + 1) H' d l ∧ ∃ wk od pt, σ = [some (.ref d), some (.int p), some (.int n), some (.int (mostR p)), some size, some fld, some vq, some vt, wk, od, pt]) ⟨KdN.refl, tabs_kd tH dH (Kd.of s3), dB, wk, none, none, rfl⟩ (fun i σ H' hI => sl_of (hI.1 _ _ g3 n31 n32 fun ps z => nomatch z)) ?_ ?_
      · rintro i x hx σ H2 ⟨k2, t2, d2, wk, od, pt, rfl⟩
        obtain ⟨ax, fw, q, lo, hi, part, rfl, hax, W, aq, bq, hpt⟩ : ∃ ax fw q lo hi part, x = V.ref ax ∧ H2 ax = some (.tup [V.ref fw, q, V.str part]) ∧ Work3 P w K mg base cN cF fw lo hi part ∧ AnyD d l H2 q ∧ betw q lo hi = false ∧ part.length ≤ 100 ∧ (PyData.str part).shown.length ≤ 1000 := by
          match i, hx with
          | 0, hx =>
            cases hx
            refine ⟨p1, f_short_bound, vq, 1, 64, "q", rfl, k2 _ _ g1 n11 n12 (fun ps z => nomatch z), ⟨_, _, i_short_bound, fun x y q H Q E aq h => ⟨x, y, q, rfl, aq, h.imp fun _ _ _ _ z => ⟨fun _ => z.2, fun i e h1 h2 => ?_⟩⟩⟩, (b4.kd kB).kd k2, c4, by decide, by decide +kernel⟩
            have z1 := z.1
            rw [e] at z1
            simp [betw, h1, h2] at z1
          | 1, hx =>
            cases hx
            refine ⟨p2, f_logs_bound, vt, 0, 20, "t", rfl, k2 _ _ g2 n21 n22 (fun ps z => nomatch z), ⟨_, _, i_logs_bound, fun x y q H Q E aq h => ⟨x, y, q, rfl, aq, h.imp fun _ _ _ _ z => ⟨fun _ => z.2, fun i e h1 h2 => ?_⟩⟩⟩, (b5.kd kB).kd k2, c5, by decide, by decide +kernel⟩
            have z1 := z.1
            rw [e] at z1
            simp [betw, h1, h2] at z1
          | n + 2, hx => cases hx
        have a2 := (b2.kd kB).kd k2
        have a3 := (b3.kd kB).kd k2
        walk_at "rd"
        refine ⟨_, st_of hax, rfl, ?_⟩
        walk_at "rd"
        refine lam_caught (b' := b + 1) t2 d2 T.e_F (fun H1 R r => r) (fun H0 e0 => tl_work3 W rfl rfl rfl rfl (aq.a.extN e0) fun E hE => need_badField c3 (a3.a.extN e0) (a2.a.extN e0) (err0_of (d2.ext e0) hE)) (fun e H3 k3 t3 d3 he => ?_)
        refine Or.inr ⟨e, cF, none, .ref cF, .ref cF, true, rfl, he, Or.inl rfl, T.x_BadField, .own _, T.i_FF, ?_⟩
        walk_at "rd"
        refine lam_bad (b' := b + 1) t3 d3 (fun H1 R r => r) (by decide) (by decide +kernel) (fun H0 e0 => tl_work3 W rfl rfl rfl rfl ((aq.kd k3).a.extN e0) fun E hE => need_badSize hp c2 ((a2.kd k3).a.extN e0) (errW_of (d3.ext e0) hE)) (fun H4 k4 t4 d4 => ?_)
        walk_at "rd"
        refine lam_bad (part := part) (b' := b + 1) t4 d4 (fun H1 R r => ⟨_, rfl, r⟩) hpt.1 hpt.2 (fun H0 e0 => tl_work3 W rfl rfl rfl rfl (((aq.kd k3).kd k4).a.extN e0) fun E hE => need_ok hp hn ⟨bq, errW_of (d4.ext e0) hE⟩) (fun H5 k5 t5 d5 => ?_)
        walk_at "rd"
        exact ⟨((k2.trans k3).trans k4).trans k5, t5, d5⟩
      · rintro σ H2 ⟨k2, t2, d2, wk, od, pt, rfl⟩
        walk_at "rd"
        refine lam_bad (b' := b) t2 d2 (fun H1 R r => r) (by decide) (by decide +kernel) (fun H0 e0 E Q' hE _ => ?_) (fun H3 k3 t3 d3 => ?_)
        · walk_at "rd"
          have dr0 := d2.ext e0
          refine ⟨by decide, fun p1 hp1 => ⟨by decide, fun p2 hp2 => ?_⟩⟩
          have sx := same_new (o := HO.tup [V.int 2]) hp1
          have sy := same_trans sx (same_new (o := HO.lst [V.int 0, V.int 1, V.int 3, V.int 4096, V.int 24, V.bl true, V.non, V.str "2", V.ref p1, V.int (-2)]) hp2)
          obtain ⟨n11, n12⟩ := dr0.fresh hp1
          obtain ⟨n21, n22⟩ := (dr0.same sx).fresh hp2
          refine ⟨b, l, nd, _, upd_same, n21, n22, by simp, by show 10 < 1000; decide, dr0.same sy, fun v H3 hv kd3 dr3 => ?_⟩
          have ep1 : H3 p1 = some (.tup [V.int 2]) := kd3 _ _ ((same_new hp2) _ _ upd_same) n11 n12
          have av : AnyV H3 v ∧ isSZ v = false := by
            simp only [List.mem_cons, List.not_mem_nil, or_false] at hv
            rcases hv with rfl | rfl | rfl | rfl | rfl | rfl | rfl | rfl | rfl | rfl
            · exact ⟨.int _, by decide⟩
            · exact ⟨.int _, by decide⟩
            · exact ⟨.int _, by decide⟩
            · exact ⟨.int _, by decide⟩
            · exact ⟨.int _, by decide⟩
            · exact ⟨.bl _, rfl⟩
            · exact ⟨.non, rfl⟩
            · exact ⟨.str _, rfl⟩
            · exact ⟨.tup ep1, rfl⟩
            · exact ⟨.int _, by decide⟩
          refine ⟨v, rfl, av.1, fun _ => fun dd H4 hdd s4 e4 => hE _ _ _ ⟨rfl, dd, rfl, e4, ((Kd.of sy).trans kd3).trans (Kd.of s4), dr3.same s4⟩, fun n' e hn' => ?_⟩
          have z := av.2
          rw [e] at z
          have z2 : SL.contains n' = true := by simpa using hn'
          have z3 : SL.contains n' = false := z
          rw [z2] at z3; cases z3
        · exact k _ (((KdN.of kA).trans kB).trans (k2.trans k3)) d3 t3

end
end K27
set_option Elab.async false
set_option linter.all false
set_option maxRecDepth 100000
set_option maxHeartbeats 4000000


namespace K27
open PySem PySem.Spec L2 LamX Jud
open PyProof.Rows hiding St wpAt
local macro_rules | `(tactic| walk_at "rd") => `(tactic| try simp only [tSeq, tAsg, gName, tVar, tC, tOp, tUn, rI0, rI, rU, tDef, tCons, tNil, tRet, tIfS, tTest, tB, tNot, tAnd, tOr, tIf, tPar, tDrop, tNext, tAndV, tOrV, tNotV, tCB, tChain, tBM, tBM0, tTup, tLst, cx_K, clo_K, L2.start, List.map_cons, List.map_nil, List.length_cons, List.length_nil, Nat.reduceAdd, Nat.reduceSub, List.replicate_succ, List.replicate_zero, List.cons_append, List.nil_append, List.append_nil, List.set_cons_zero, List.set_cons_succ, List.getElem?_cons_zero, List.getElem?_cons_succ, Option.some.injEq, V.int.injEq, V.bl.injEq, V.str.injEq, V.ref.injEq, List.cons.injEq, exists_eq_left', exists_eq_left, exists_and_left, and_true, true_and, exists_eq', Bool.false_eq_true, if_false, if_true, decide_eq_true_eq, Bool.not_false, Bool.not_true, tMkErr, tG, tFor_r1, tFor_r2, tFor_l, tFor_t, and_assoc, tLc_l, tLc_t, tLc_r1, tLc_r2, wipe, tDGet, sDPut, List.getElem?_nil, tDisp, tPairs, tYes, tErrF, tDefK, C8.tCut, cx_P, cx_W, cx_Mg, cx_Base, clo_P, clo_W, clo_Mg, clo_Base, gTup, gCons, gNil])
section
variable {P : Program} {w : World} {K : PySem.W.Frag} {mg : Str → Option Value} {base : Heap} {cJ cN cF : Addr} {lt : Nat → Addr × Addr}
def sp_law (K : PySem.W.Frag) (lt : Nat → Addr × Addr) : Sp := fun vs H Q _ => ∃ (a : Addr) (xs : List Int), vs = [.ref a] ∧ SqL K H a (vI xs) ∧ xs.length ≤ 63 ∧ Tabs (tabL lt) H ∧ ∀ H', Q (.bl true) H'
theorem vI_ne : ∀ p ∈ FL, vI (szs p) ≠ [] := by
  have h : ∀ p ∈ FL, 0 < (szs p).length := by decide +kernel
  intro p hp e
  have z := h p hp
  have e2 := congrArg List.length e
  simp [vI] at e2
  rw [e2] at z
  cases z
theorem vI_len : ∀ p ∈ FL, (vI (szs p)).length < 1000 := fun p hp => by
  have := szs_len p hp
  simp [vI]
  omega
theorem d_law (T : Txt P K mg cJ cN cF) (TL : TxL K mg base lt) : Def P w K mg base 15 "law" ["script"] (sp_law K lt) := by
  refine Def.of T.t_law bi_law sc_law (fun vs H Q E h => ?_) (fun f cdv A outer s H vs Q E at_ hr h => ?_)
  · obtain ⟨a, xs, rfl, hs, hl, hT, k⟩ := h
    rfl
  · obtain ⟨a, xs, rfl, hs, hl, hT, k⟩ := h
    have hu := hu_of hr.room
    refine ⟨_, (pss_cons (ps_set (i := 1) sc_law.nd rfl (Or.inl rfl) (pe_def (d_law_begun T) (hr.mono (by decide)) p0 (pa_cons (pv 0) pa_nil)))
       (pss_cons (ps_for (passes_of rfl) rfl (pi_list (pe_lst (pa_cons pe_int (pa_cons pe_int (pa_cons pe_int (pa_cons pe_int (pa_cons pe_int (pa_cons pe_int (pa_cons pe_int pa_nil))))))))) (pg_name (i := 2) sc_law.nd rfl (Or.inl rfl))
       (pss_cons (ps_for (passes_of rfl) rfl (pi_list (pe_def (d_law_sizes_of T) (hr.mono (by decide)) p0 (pa_cons (pv 2) pa_nil))) (pg_name (i := 3) sc_law.nd rfl (Or.inl rfl))
       (pss_one (ps_if (pt_not (pt_val (pe_def (d_law_size_right T) (hr.mono (by decide)) px (pa_cons (pv 1) (pa_cons (pv 2) (pa_cons (pv 3) pa_nil))))))
       (pss_one (ps_ret pe_bl))
       pss_nil)))
       (pss_one (ps_if (pt_not (pt_val (pe_def (d_law_refused_right T TL) (hr.mono (by decide)) p0 (pa_cons (pv 1) (pa_cons (pv 2) (pa_cons (pe_def (d_law_pick T) (hr.mono (by decide)) p0 (pa_cons (pv 1) (pa_cons (pe_def (d_law_sizes_of T) (hr.mono (by decide)) p0 (pa_cons (pv 2) pa_nil)) pa_nil))) pa_nil))))))
       (pss_one (ps_ret pe_bl))
       pss_nil))))
       (pss_one (ps_ret pe_bl)))), ?_⟩
    walk_at "rd"
    refine ⟨a, xs, rfl, hs, hl, fun d l H1 hd hl1 nd s1 dr1 => ?_⟩
    have t1 := hT.ext s1
    walk_at "rd"
    refine ⟨by decide, fun q hq => ⟨⟨_, sl_of upd_same⟩, ?_⟩⟩
    have sq := same_new (o := HO.lst [V.int 41, V.int 97, V.int 193, V.int 641, V.int 7681, V.int 12289, V.int 40961]) hq
    have eq : upd H1 q (HO.lst [V.int 41, V.int 97, V.int 193, V.int 641, V.int 7681, V.int 12289, V.int 40961]) q = some (.lst (vI FL)) := upd_same
    obtain ⟨nq1, nq2⟩ := dr1.fresh hq
    have d2 := dr1.same sq
    have t2 := t1.ext sq
    generalize upd H1 q (HO.lst [V.int 41, V.int 97, V.int 193, V.int 641, V.int 7681, V.int 12289, V.int 40961]) = H2 at sq eq d2 t2 ⊢
    refine Lp.list (xs := vI FL) (fun i σ H' => KdN d l H2 H' ∧ Tabs (tabL lt) H' ∧ Draw (99999 - 1000 * i) H' d l ∧ ∃ p n, σ = [some (.ref a), some (.ref d), p, n]) ⟨KdN.refl, t2, d2, none, none, rfl⟩ (fun i σ H' hI => sl_of (hI.1 _ _ eq nq1 nq2 fun ps z => nomatch z)) ?_ ?_
    · rintro i x hx σ H3 ⟨k3, t3, d3, p, n, rfl⟩
      obtain ⟨p, rfl, hp'⟩ := vI_get hx
      have hp : p ∈ FL := List.mem_of_getElem? hp'
      have hi : i < 7 := (List.getElem?_eq_some_iff.mp hp').1
      walk_at "rd"
      refine ⟨p, rfl, hp, fun u H4 hu s4 e4 => ?_⟩
      walk_at "rd"
      refine ⟨⟨_, sl_of e4⟩, ?_⟩
      obtain ⟨nu1, nu2⟩ := d3.fresh hu
      refine Lp.list (xs := vI (szs p)) (fun j σ H' => j ≤ 11 ∧ KdN d l H4 H' ∧ Tabs (tabL lt) H' ∧ Draw (99999 - 1000 * i - 2 * j) H' d l ∧ ∃ n, σ = [some (.ref a), some (.ref d), some (.int p), n]) ⟨by decide, KdN.refl, t3.ext s4, d3.same s4, n, rfl⟩ (fun i σ H' hI => sl_of (hI.2.1 _ _ e4 nu1 nu2 fun ps z => nomatch z)) ?_ ?_
      · rintro j y hy σ H5 ⟨hj, k5, t5, d5, n, rfl⟩
        obtain ⟨n, rfl, hn'⟩ := vI_get hy
        have hn : n ∈ szs p := List.mem_of_getElem? hn'
        have hj2 : j < 11 := Nat.lt_of_lt_of_le (List.getElem?_eq_some_iff.mp hn').1 (szs_len p hp)
        walk_at "rd"
        refine ⟨99999 - 1000 * i - 2 * (j + 1), d, l, p, n, rfl, nd, d5.less (by omega), hp, hn, fun H6 k6 d6 => ?_⟩
        walk_at "rd"
        exact ⟨by omega, k5.trans (KdN.of k6), tabs_kd t5 d5 k6, d6⟩
      · rintro σ H5 ⟨hj, k5, t5, d5, n, rfl⟩
        walk_at "rd"
        refine ⟨p, rfl, hp, fun v H6 hv s6 e6 => ?_⟩
        have d6 := d5.same s6
        obtain ⟨nv1, nv2⟩ := d5.fresh hv
        refine ⟨99999 - 1000 * i - 23, d, l, v, _, rfl, nd, e6, nv1, nv2, vI_ne p hp, vI_len p hp, d6.less (by simp [vI] at hj ⊢; omega), fun y H7 hy k7 d7 => ?_⟩
        obtain ⟨n', hn', rfl⟩ := List.mem_map.mp hy
        walk_at "rd"
        refine ⟨99999 - 1000 * (i + 1), d, l, p, n', rfl, nd, d7.less (by omega), tabs_kd (t5.ext s6) d6 k7, hp, hn', fun H8 k8 d8 t8 => ?_⟩
        walk_at "rd"
        exact ⟨(((k3.trans (KdN.of (Kd.of s4))).trans k5).trans (KdN.of (Kd.of s6))).trans ((KdN.of k7).trans k8), t8, d8⟩
    · rintro σ H3 ⟨k3, t3, d3, p, n, rfl⟩
      walk_at "rd"
      exact k _

end
end K27
set_option Elab.async false
set_option linter.all false
set_option maxRecDepth 100000
set_option maxHeartbeats 4000000


namespace K27
open PySem PySem.Spec L2 LamX Jud
open PyProof.Rows hiding St wpAt
local macro_rules | `(tactic| walk_at "rd") => `(tactic| try simp only [tSeq, tAsg, gName, tVar, tC, tOp, tUn, rI0, rI, rU, tDef, tCons, tNil, tRet, tIfS, tTest, tB, tNot, tAnd, tOr, tIf, tPar, tDrop, tNext, tAndV, tOrV, tNotV, tCB, tChain, tBM, tBM0, tTup, tLst, cx_K, clo_K, L2.start, List.map_cons, List.map_nil, List.length_cons, List.length_nil, Nat.reduceAdd, Nat.reduceSub, List.replicate_succ, List.replicate_zero, List.cons_append, List.nil_append, List.append_nil, List.set_cons_zero, List.set_cons_succ, List.getElem?_cons_zero, List.getElem?_cons_succ, Option.some.injEq, V.int.injEq, V.bl.injEq, V.str.injEq, V.ref.injEq, List.cons.injEq, exists_eq_left', exists_eq_left, exists_and_left, and_true, true_and, exists_eq', Bool.false_eq_true, if_false, if_true, decide_eq_true_eq, Bool.not_false, Bool.not_true, tMkErr, tG, tFor_r1, tFor_r2, tFor_l, tFor_t, and_assoc, tLc_l, tLc_t, tLc_r1, tLc_r2, wipe, tDGet, sDPut, List.getElem?_nil, tDisp, tPairs, tYes, tErrF, tDefK, C8.tCut])
abbrev PW : Program := PySem.Challenge.pw_judgedunrun_k27_whole_counts_of_all_fiel
theorem plain_of {K : PySem.W.Frag} {h : Heap} {mg : Str → Option Value} {x : Str} (X : K.In h) (G : h.Ns mainGlobals mg) (a : (He.Fa.glo x).ok K = true) (b : (He.Fa.exc x).ok K = true) : PlainC K mg x (He.ga K x) := by
  obtain ⟨h1, h2, h3, h4⟩ := He.exc_ok b
  exact ⟨He.glo_ok X G a, h1, h2, h3, h4⟩
def faL : List He.Fa := [.free "isinstance", .free "int", .free "bool", .free "str", .free "len", .free "repr", .free "sum", .free "abs", .free "range", .int "MOST_PLACES" 64, .int "MOST_TALKS" 20, .glo "JudgeError", .glo "BadNumber", .glo "BadField", .glo "is_number", .glo "is_between", .glo "need_between", .glo "is_field", .glo "need_field", .glo "most_rows", .glo "sizes_of", .glo "is_size", .glo "need_size", .glo "rounds_of", .glo "speaks", .glo "power_whole", .glo "rows_of_draws", .glo "draw_rows", .glo "void_most", .glo "parts_told", .glo "bound_parts", .glo "bound", .glo "short_bound", .glo "logs_bound", .glo "one_row_zeros", .glo "_law_begun", .glo "_law_mixed", .glo "_law_take", .glo "_law_pick", .glo "_law_caught", .glo "_law_same", .glo "_law_is_bad", .glo "_law_whole", .glo "_law_sizes_of", .glo "_law_folds_of", .glo "_law_size_right", .glo "_law_refused_right", .glo "law", .exc "BadField", .exm "BadNumber" "JudgeError" true, .exm "BadField" "JudgeError" true]
def fnL : List He.DefD := [⟨("is_number", none), "is_number", "is_number", defArgs s_is_number, defBody s_is_number, defScope s_is_number, [], []⟩, ⟨("is_between", none), "is_between", "is_between", defArgs s_is_between, defBody s_is_between, defScope s_is_between, [], []⟩, ⟨("need_between", none), "need_between", "need_between", defArgs s_need_between, defBody s_need_between, defScope s_need_between, [], []⟩, ⟨("is_field", none), "is_field", "is_field", defArgs s_is_field, defBody s_is_field, defScope s_is_field, [], []⟩, ⟨("need_field", none), "need_field", "need_field", defArgs s_need_field, defBody s_need_field, defScope s_need_field, [], []⟩, ⟨("most_rows", none), "most_rows", "most_rows", defArgs s_most_rows, defBody s_most_rows, defScope s_most_rows, [], []⟩, ⟨("sizes_of", none), "sizes_of", "sizes_of", defArgs s_sizes_of, defBody s_sizes_of, defScope s_sizes_of, [], []⟩, ⟨("is_size", none), "is_size", "is_size", defArgs s_is_size, defBody s_is_size, defScope s_is_size, [], []⟩, ⟨("need_size", none), "need_size", "need_size", defArgs s_need_size, defBody s_need_size, defScope s_need_size, [], []⟩, ⟨("rounds_of", none), "rounds_of", "rounds_of", defArgs s_rounds_of, defBody s_rounds_of, defScope s_rounds_of, [], []⟩, ⟨("speaks", none), "speaks", "speaks", defArgs s_speaks, defBody s_speaks, defScope s_speaks, [], []⟩, ⟨("power_whole", none), "power_whole", "power_whole", defArgs s_power_whole, defBody s_power_whole, defScope s_power_whole, [], []⟩, ⟨("rows_of_draws", none), "rows_of_draws", "rows_of_draws", defArgs s_rows_of_draws, defBody s_rows_of_draws, defScope s_rows_of_draws, [], []⟩, ⟨("draw_rows", none), "draw_rows", "draw_rows", defArgs s_draw_rows, defBody s_draw_rows, defScope s_draw_rows, [], []⟩, ⟨("void_most", none), "void_most", "void_most", defArgs s_void_most, defBody s_void_most, defScope s_void_most, [], []⟩, ⟨("parts_told", none), "parts_told", "parts_told", defArgs s_parts_told, defBody s_parts_told, defScope s_parts_told, [], []⟩, ⟨("bound_parts", none), "bound_parts", "bound_parts", defArgs s_bound_parts, defBody s_bound_parts, defScope s_bound_parts, [], []⟩, ⟨("bound", none), "bound", "bound", defArgs s_bound, defBody s_bound, defScope s_bound, [], []⟩, ⟨("short_bound", none), "short_bound", "short_bound", defArgs s_short_bound, defBody s_short_bound, defScope s_short_bound, [], []⟩, ⟨("logs_bound", none), "logs_bound", "logs_bound", defArgs s_logs_bound, defBody s_logs_bound, defScope s_logs_bound, [], []⟩, ⟨("one_row_zeros", none), "one_row_zeros", "one_row_zeros", defArgs s_one_row_zeros, defBody s_one_row_zeros, defScope s_one_row_zeros, [], []⟩, ⟨("_law_begun", none), "_law_begun", "_law_begun", defArgs s_law_begun, defBody s_law_begun, defScope s_law_begun, [], []⟩, ⟨("_law_mixed", none), "_law_mixed", "_law_mixed", defArgs s_law_mixed, defBody s_law_mixed, defScope s_law_mixed, [], []⟩, ⟨("_law_take", none), "_law_take", "_law_take", defArgs s_law_take, defBody s_law_take, defScope s_law_take, [], []⟩, ⟨("_law_pick", none), "_law_pick", "_law_pick", defArgs s_law_pick, defBody s_law_pick, defScope s_law_pick, [], []⟩, ⟨("_law_caught", none), "_law_caught", "_law_caught", defArgs s_law_caught, defBody s_law_caught, defScope s_law_caught, [], []⟩, ⟨("_law_same", none), "_law_same", "_law_same", defArgs s_law_same, defBody s_law_same, defScope s_law_same, [], []⟩, ⟨("_law_is_bad", none), "_law_is_bad", "_law_is_bad", defArgs s_law_is_bad, defBody s_law_is_bad, defScope s_law_is_bad, [], []⟩, ⟨("_law_whole", none), "_law_whole", "_law_whole", defArgs s_law_whole, defBody s_law_whole, defScope s_law_whole, [], []⟩, ⟨("_law_sizes_of", none), "_law_sizes_of", "_law_sizes_of", defArgs s_law_sizes_of, defBody s_law_sizes_of, defScope s_law_sizes_of, [], []⟩, ⟨("_law_folds_of", none), "_law_folds_of", "_law_folds_of", defArgs s_law_folds_of, defBody s_law_folds_of, defScope s_law_folds_of, [], []⟩, ⟨("_law_size_right", none), "_law_size_right", "_law_size_right", defArgs s_law_size_right, defBody s_law_size_right, defScope s_law_size_right, [], []⟩, ⟨("_law_refused_right", none), "_law_refused_right", "_law_refused_right", defArgs s_law_refused_right, defBody s_law_refused_right, defScope s_law_refused_right, [], []⟩, ⟨("law", none), "law", "law", defArgs s_law, defBody s_law, defScope s_law, [], []⟩]
def tfL : List He.Defn := [("_law_refused_right", none)]
def clsInit (s : Stmt) : Stmt := match s with
  | .ClassDef _ _ _ (f :: _) _ _ _ _ _ _ _ => f
  | _ => s
def esL : List EClsD := [⟨"BadNumber", "part", "BadNumber.__init__", defArgs (clsInit (top 2)), defBody (clsInit (top 2)), defScope (clsInit (top 2))⟩]
def exL (K : PySem.W.Frag) : Bool := errB K "BadNumber" "part" "BadNumber.__init__" PW.main.file && (excB K (He.ga K "BadNumber") && (excB K (He.ga K "BadField") && (decide (PySem.W.kitOne K (.ref (He.ga K "BadNumber")) (.ref (He.ga K "BadNumber")) = some true) && (decide (PySem.W.kitOne K (.ref (He.ga K "BadField")) (.ref (He.ga K "BadField")) = some true) && (gtupB K "FIELDS" [.int 41, .int 97, .int 193, .int 641, .int 7681, .int 12289, .int 40961] && (gtupB K "MOST_ROWS" [.int 2, .int 8, .int 16, .int 32, .int 128, .int 1024, .int 2048] && (gtupB K "SIZES" [.int 2, .int 4, .int 8, .int 16, .int 32, .int 64, .int 128, .int 256, .int 512, .int 1024, .int 2048])))))))
def names0 : List PySem.Str := ["JudgeError", "BadNumber", "BadField", "FIELDS", "MOST_ROWS", "SIZES", "MOST_PLACES", "MOST_TALKS", "is_number", "is_between", "need_between", "is_field", "need_field", "most_rows", "sizes_of", "is_size", "need_size", "rounds_of", "speaks", "power_whole", "rows_of_draws", "draw_rows", "void_most", "parts_told", "bound_parts", "bound", "short_bound", "logs_bound", "one_row_zeros", "_law_begun"]
def names1 : List PySem.Str := ["_law_mixed", "_law_take", "_law_pick", "_law_caught", "_law_same", "_law_is_bad", "_law_whole", "_law_sizes_of", "_law_folds_of", "_law_size_right", "_law_refused_right"]
def names : List PySem.Str := names0 ++ names1
abbrev lawIx : Nat := 47
theorem txt_of {K : PySem.W.Frag} {h : Heap} {mg : Str → Option Value} (X : K.In h) (G : h.Ns mainGlobals mg) (c : SaysJ faL fnL tfL esL exL h K) : Txt PW K mg (He.ga K "JudgeError") (He.ga K "BadNumber") (He.ga K "BadField") := by
  have hm := c.more
  simp only [exL, Bool.and_eq_true, decide_eq_true_eq] at hm
  obtain ⟨z0, z1, z2, z3, z4, z5, z6, z7⟩ := hm
  have he := c.errs
  simp only [esL, List.map_cons, List.map_nil, List.cons.injEq, and_true] at he
  have w0 := he
  exact {
    n_isinstance := He.free_ok X G (c.d.fact 0 (f := .free "isinstance") rfl)
    n_int := He.free_ok X G (c.d.fact 1 (f := .free "int") rfl)
    n_bool := He.free_ok X G (c.d.fact 2 (f := .free "bool") rfl)
    n_str := He.free_ok X G (c.d.fact 3 (f := .free "str") rfl)
    n_len := He.free_ok X G (c.d.fact 4 (f := .free "len") rfl)
    n_repr := He.free_ok X G (c.d.fact 5 (f := .free "repr") rfl)
    n_sum := He.free_ok X G (c.d.fact 6 (f := .free "sum") rfl)
    n_abs := He.free_ok X G (c.d.fact 7 (f := .free "abs") rfl)
    n_range := He.free_ok X G (c.d.fact 8 (f := .free "range") rfl)
    c_BadNumber := errC_of (e := ⟨"BadNumber", "part", "BadNumber.__init__", defArgs (clsInit (top 2)), defBody (clsInit (top 2)), defScope (clsInit (top 2))⟩) X G z0 w0 ⟨by decide, by decide, by decide, by decide, by decide, by decide, fun _ _ _ _ _ _ _ _ _ _ _ _ => rfl⟩ (by decide +kernel) ⟨_, _, _, _, _, _, _, _, _, _, _, _, _, _, rfl, rfl, rfl, rfl⟩
    f_BadNumber := (excC_of z1).2
    x_BadNumber := (excC_of z1).1
    x_BadField := (excC_of z2).1
    c_BadField := plain_of X G (c.d.fact 13 (f := .glo "BadField") rfl) (c.d.fact 48 (f := .exc "BadField") rfl)
    c_JudgeError := He.glo_ok X G (c.d.fact 11 (f := .glo "JudgeError") rfl)
    k_FIELDS := gtup_of X G z5
    k_MOST_ROWS := gtup_of X G z6
    k_SIZES := gtup_of X G z7
    k_MOST_PLACES := He.int_ok X G (c.d.fact 9 (f := .int "MOST_PLACES" 64) rfl)
    k_MOST_TALKS := He.int_ok X G (c.d.fact 10 (f := .int "MOST_TALKS" 20) rfl)
    e_N := He.exm_ok (x := "BadNumber") (y := "JudgeError") (c.d.fact 49 (f := .exm "BadNumber" "JudgeError" true) rfl)
    e_F := He.exm_ok (x := "BadField") (y := "JudgeError") (c.d.fact 50 (f := .exm "BadField" "JudgeError" true) rfl)
    i_NN := z3
    i_FF := z4
    t_is_number := hasDef_of X G c.d 14 0 rfl rfl
    t_is_between := hasDef_of X G c.d 15 1 rfl rfl
    t_need_between := hasDef_of X G c.d 16 2 rfl rfl
    t_is_field := hasDef_of X G c.d 17 3 rfl rfl
    t_need_field := hasDef_of X G c.d 18 4 rfl rfl
    t_most_rows := hasDef_of X G c.d 19 5 rfl rfl
    t_sizes_of := hasDef_of X G c.d 20 6 rfl rfl
    t_is_size := hasDef_of X G c.d 21 7 rfl rfl
    t_need_size := hasDef_of X G c.d 22 8 rfl rfl
    t_rounds_of := hasDef_of X G c.d 23 9 rfl rfl
    t_speaks := hasDef_of X G c.d 24 10 rfl rfl
    t_power_whole := hasDef_of X G c.d 25 11 rfl rfl
    t_rows_of_draws := hasDef_of X G c.d 26 12 rfl rfl
    t_draw_rows := hasDef_of X G c.d 27 13 rfl rfl
    t_void_most := hasDef_of X G c.d 28 14 rfl rfl
    t_parts_told := hasDef_of X G c.d 29 15 rfl rfl
    t_bound_parts := hasDef_of X G c.d 30 16 rfl rfl
    t_bound := hasDef_of X G c.d 31 17 rfl rfl
    t_short_bound := hasDef_of X G c.d 32 18 rfl rfl
    t_logs_bound := hasDef_of X G c.d 33 19 rfl rfl
    t_one_row_zeros := hasDef_of X G c.d 34 20 rfl rfl
    t_law_begun := hasDef_of X G c.d 35 21 rfl rfl
    t_law_mixed := hasDef_of X G c.d 36 22 rfl rfl
    t_law_take := hasDef_of X G c.d 37 23 rfl rfl
    t_law_pick := hasDef_of X G c.d 38 24 rfl rfl
    t_law_caught := hasDef_of X G c.d 39 25 rfl rfl
    t_law_same := hasDef_of X G c.d 40 26 rfl rfl
    t_law_is_bad := hasDef_of X G c.d 41 27 rfl rfl
    t_law_whole := hasDef_of X G c.d 42 28 rfl rfl
    t_law_sizes_of := hasDef_of X G c.d 43 29 rfl rfl
    t_law_folds_of := hasDef_of X G c.d 44 30 rfl rfl
    t_law_size_right := hasDef_of X G c.d 45 31 rfl rfl
    t_law_refused_right := hasDef_of X G c.d 46 32 rfl rfl
    t_law := hasDef_of X G c.d 47 33 rfl rfl
  }
theorem txl_of {K : PySem.W.Frag} {h base : Heap} {mg : Str → Option Value} (X : K.In h) (G : h.Ns mainGlobals mg) (c : SaysJ faL fnL tfL esL exL h K) (TB : ∀ p ∈ tfL, TabB base mg (He.cT K p).1 (He.cT K p).2) (hu : (tfL.map fun p => (He.cT K p).2).Nodup) : TxL K mg base (fun i => He.cT K (tfL.getD i ("", none))) := by
  exact {
    c_law_refused_right := by
      obtain ⟨cdv, a, cc, rfl, e⟩ := at_of X G c.d 46 32 rfl rfl
      exact ⟨_, by rw [show (He.cT K (tfL.getD 0 ("", none))).1 = cc from e]; exact a⟩
    b_law_refused_right := TB _ (List.getElem_mem (l := tfL) (n := 0) (by decide))
    m_law_refused_right := by simp [tabL]
    u_law_refused_right := by
      intro p hp e
      simp only [tabL, List.mem_cons, List.not_mem_nil, or_false] at hp
      subst hp
      rfl
  }
end K27
set_option Elab.async false
set_option linter.all false
set_option maxRecDepth 100000
set_option maxHeartbeats 4000000


namespace K27
open PySem PySem.Spec L2 LamX Jud
open PyProof.Rows hiding St wpAt
local macro_rules | `(tactic| walk_at "rd") => `(tactic| try simp only [tSeq, tAsg, gName, tVar, tC, tOp, tUn, rI0, rI, rU, tDef, tCons, tNil, tRet, tIfS, tTest, tB, tNot, tAnd, tOr, tIf, tPar, tDrop, tNext, tAndV, tOrV, tNotV, tCB, tChain, tBM, tBM0, tTup, tLst, cx_K, clo_K, L2.start, List.map_cons, List.map_nil, List.length_cons, List.length_nil, Nat.reduceAdd, Nat.reduceSub, List.replicate_succ, List.replicate_zero, List.cons_append, List.nil_append, List.append_nil, List.set_cons_zero, List.set_cons_succ, List.getElem?_cons_zero, List.getElem?_cons_succ, Option.some.injEq, V.int.injEq, V.bl.injEq, V.str.injEq, V.ref.injEq, List.cons.injEq, exists_eq_left', exists_eq_left, exists_and_left, and_true, true_and, exists_eq', Bool.false_eq_true, if_false, if_true, decide_eq_true_eq, Bool.not_false, Bool.not_true, tMkErr, tG, tFor_r1, tFor_r2, tFor_l, tFor_t, and_assoc, tLc_l, tLc_t, tLc_r1, tLc_r2, wipe, tDGet, sDPut, List.getElem?_nil, tDisp, tPairs, tYes, tErrF, tDefK, C8.tCut])
theorem fin {w : World} {K : PySem.W.Frag} {h : Heap} {mg : Str → Option Value} {fa : Addr} (X : K.In h) (G : h.Ns mainGlobals mg) (hfa : mg ("law" : Str) = some (.ref fa)) (c : SaysJ faL fnL tfL esL exL h K) : LawG PW w K 15 63 "script" mg fa h := by
  have T := txt_of X G c
  obtain ⟨f, cdv, A⟩ := T.t_law
  have e := hfa.symm.trans A.gl
  cases e
  obtain ⟨oc, od, kV, doc, pm, an, ct, osl, lk⟩ := A.ex
  refine ⟨_, tfL.map (He.cT K), sp_law K (fun i => He.cT K (tfL.getD i ("", none))), ?_, ?_, ?_, fun s u => .of_eq (bi_law kV doc pm an cdv ct [u] rfl), ?_, ?_⟩
  · intro p hp
    obtain ⟨q, hq, rfl⟩ := List.mem_map.mp hp
    exact c.empty q hq
  · intro p hp
    obtain ⟨q, hq, rfl⟩ := List.mem_map.mp hp
    exact c.out q hq
  · intro p hp
    obtain ⟨q, hq, rfl⟩ := List.mem_map.mp hp
    exact c.hd q hq
  · intro H a ns hl hT hS
    refine ⟨a, ns, rfl, hS, hl, ?_, fun _ => rfl⟩
    intro p hp
    simp only [tabL, List.mem_cons, List.not_mem_nil, or_false] at hp
    subst hp
    exact TabS.nil (hT _ (List.mem_map.mpr ⟨_, List.mem_cons_self, rfl⟩))
  · intro base _ _ TB
    have TL := txl_of (base := base) X G c (fun p hp => TB _ (List.mem_map.mpr ⟨p, hp, rfl⟩)) (by simp [tfL])
    obtain ⟨f2, g2, kp, fd, ⟨o, ho, hd⟩, hb, F⟩ := (d_law (w := w) T TL).ex
    have e := hfa.symm.trans g2
    cases e
    rw [lk] at ho
    cases ho
    cases hd
    exact F
abbrev R : PySem.W.OpenRow := PySem.W.OpenLaw.row PySem.Challenge.rw_judgedunrun_k27_whole_counts_of_all_fiel
abbrev hk : PySem.W.Hook := hookJ 5 faL fnL tfL esL exL
def ob (s : PySem.W.SharedT) : AlJ := obsJ 5 faL fnL tfL esL exL (HandSHeadRun.getT s)
theorem ob_eq (s : PySem.W.SharedT) : ob s = hk.obs s.abs := obsJ_eq (HandSHeadRun.getT_eq s)
set_option maxHeartbeats 0 in
theorem run (w : World) : HandSHeadRun.RunEq R (PySem.W.view R.prog [lawIx]) hk ob 3000 names w := by
  intro os
  kernel_rfl
end K27
set_option Elab.async false
set_option linter.all false
set_option maxRecDepth 100000
set_option maxHeartbeats 0
open PySem PySem.W PySem.Calls PyProof.Rows
theorem PySem.Challenge.cw_judgedunrun_k27_whole_counts_of_all_fiel_holds : PySem.Challenge.rw_judgedunrun_k27_whole_counts_of_all_fiel.Holds := by
  w_on; o_law
  refine HandSHeadRun.head_any (r := K27.R) (q := view K27.R.prog [K27.lawIx]) (H := K27.hk) (ob := K27.ob) (M := 3000) (loose := K27.names) (d := HandSHeadRun.topDef K27.R.prog K27.lawIx) (kwd := []) K27.ob_eq
    (by kernel_rfl) (fun s => by kernel_rfl) K27.run (by kernel_rfl) (by kernel_rfl) (by kernel_rfl) (by rfl) (by first | assumption | decide +kernel) (by decide +kernel) ⟨rfl, rfl, rfl, rfl, rfl, by decide +kernel⟩ ?hw ?hc
  case hw => w_witness2
  case hc =>
    refine Jud.walk_G (l := PySem.Challenge.rw_judgedunrun_k27_whole_counts_of_all_fiel) (n := 63) (k := 15) (x := "script") rfl (by decide) (by kernel_rfl) ⟨⟨rfl, by decide, by decide⟩, rfl⟩ ?F
    intro w mg fa h Y G hmg0
    obtain ⟨K, KX, c⟩ := Y
    have hmg : mg ("law" : PySem.Str) = some (.ref fa) := by
      have e : (HandSHeadRun.topDef K27.R.prog K27.lawIx).name = ("law" : PySem.Str) := by kernel_rfl
      rw [← e]
      exact hmg0
    exact ⟨K, KX, K27.fin KX G hmg c⟩
